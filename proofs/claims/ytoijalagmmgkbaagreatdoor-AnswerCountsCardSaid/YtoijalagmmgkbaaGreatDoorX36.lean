/- The proof of a statement of the seat, part 36. -/
import Derived.Test.YtoijalagmmgkbaaGreatDoorX35
import Derived.Shelf.RegionOpenPlain
import Derived.WalkKit
import Derived.Deep.LoopGhost
import Derived.Deep.Draws
import Derived.Deep.QuietTactic
import Derived.Lib.Walk
import Derived.Test.YtoijalagmmgkbaaGreatDoorX29
set_option linter.all false
set_option linter.defProp false
set_option maxRecDepth 1000000
namespace Go.Sx
open Go
open Classical renaming byContradiction->M
open Option renaming none->z,some->d_
open List renaming range->a_,length_set->f_,getElem?_eq_none->i_
open Nat renaming beq->b_,le_succ_of_le->e_,add_zero->m_
open AH renaming bH->c_,get_set_same->g_,Le->l_
open AV renaming le->k_,own->o_,int->p_
noncomputable section
def AH.Le.swap{n0:Nat}{σ:Nat->Nat}{H H1 H2:AH}(h:l_ n0 σ H H1)(b:Nat)(hn:H2.n=H1.n)(c:∀l,l≠b->H2.get l=H1.get l)(d:H1.get b≠ .dead)(i:(H.get (σ b)).le σ (H2.get b)):l_ n0 σ H H2:=by
 have a:∀l,H2.get l≠ .dead->H1.get l≠ .dead:=λl k=>by
  by_cases e:l=b
  ·rw[e];exact d
  ·rw[<-c l e];exact k
 refine⟨by rw[hn];exact h.n,h.id,λl hl=>h.ge l (by rw[<-hn];exact hl),λl=>?_,λl f k j=>h.inj l f (a l k) (a f j),λl hl=>?_⟩
 ·by_cases e:l=b
  ·subst e;exact .inr (.inl i)
  ·rw[c l e];exact h.dF l
 ·have:H1.get l= .dead:=h.low l (by rw[<-hn];exact hl)
  by_cases e:l=b
  ·subst e;exact absurd this d
  ·rw[c l e];exact this
def oS(n:Nat)(b:Nat->Nat)(a:AV)(j:Nat):List AV:=bif b_ j n then [a]else eW b j
def rW(n:Nat)(b:Nat->Nat)(j:Nat):AV:=bif b_ j n then .any else .addr (b j) 0
def xa(n:Nat)(K:Nat->List Int)(b:Nat->Nat):List (Nat×ai):=[(15,.cT n K (λj=> .addr (b j) 0) z),(16,.rows n 1 (eW b) (.ty 89))]
def nW(n:Nat)(K:Nat->List Int)(b:Nat->Nat)(ks:List Int)(g:Nat)(x:bj)(a:AV):List (Nat×ai):=[(15,.cT (n+1) (cZ n K ks) (rW n b) (d_ (n,.ptr 17 0 0 0))),(17,.cells [.ab g 1 (ae x.W),.own 18 1 3,.own 19 1 1] (.ty 94)),(18,.rows 1 3 (az x.L x.G x.C) (.ty 99)),(19,.rows 1 1 (ae x.T) (.ty 3)),(20,.rows (n+1) 1 (oS n b a) (.ty 89))]
def rX{n:Nat}{K:Nat->List Int}{b:Nat->Nat}{l:Nat}(a:cD (xa n K b) l≠ .dead):l=15∨l=16:=M λh=>a (by
 simp only[not_or]at h
 obtain⟨c,d⟩:=h
 simp only[xa,cD,c,d,if_false])
def tg{n:Nat}{K:Nat->List Int}{b:Nat->Nat}{ks:List Int}{g:Nat}{x:bj}{a:AV}{l:Nat}(c:l≠15)(d:l≠17)(e:l≠18)(f:l≠19)(h:l≠20):cD (nW n K b ks g x a) l= .dead:=by
 simp only[nW,cD,c,d,e,f,h,if_false]
def sN(q:Query)(k n:Nat)(F:Nat->ay)(K:Nat->List Int)(b:Nat->Nat)(ks:List Int)(g:Nat)(x:bj)(a:AV)(i:Int):St:={t:=tG k F (.own 20 (n+1) 1) (i+1),nt:=86,H:=hG q 21 (nW n K b ks g x a),df:=[]}
def FC{q:Query}{k n:Nat}{F:Nat->ay}{K:Nat->List Int}{b:Nat->Nat}{ks:List Int}{g:Nat}{x:bj}{i:Int}{j:St}(h:St.Le 17 j (sN q k n F K b ks g x .any i))(c:C4 n j):St.Le 17 j (sN q k n F K b ks g x (.ptr 17 0 0 0) i):=by
 obtain⟨σ,k1,k2,D,N⟩:=h.le
 have nd:∀a l,l<15->cD (nW n K b ks g x a) l= .dead:=λa l hl=>tg O O O O O
 have o:∀a,(hG q 21 (nW n K b ks g x a)).get 20= .rows (n+1) 1 (oS n b a) (.ty 89):=λa=>by
  rw[eX (nd a),if_neg O,if_neg O];rfl
 have v:∀a,(hG q 21 (nW n K b ks g x a)).get 15= .cT (n+1) (cZ n K ks) (rW n b) (d_ (n,.ptr 17 0 0 0)):=λa=>by
  rw[eX (nd a),if_neg O,if_neg O];rfl
 have E:k_ σ (cR j.t 6) (.own 20 (n+1) 1):=by
  have e:cR (tG k F (.own 20 (n+1) 1) (i+1)) 6= .own 20 (n+1) 1:=by unfold tG;rw[fV];rfl
  rw[<-e];exact Tr.qz D 6
 refine⟨σ,k1.swap 20 A (λl hl=>?_) ?_ ?_,k2,D,N⟩
 ·show(hG q 21 _).get l=(hG q 21 _).get l
  rw[eX (nd _),eX (nd _)]
  by_cases h:l<14
  ·rw[if_pos h,if_pos h]
  ·rw[if_neg h,if_neg h]
   by_cases d:l=14
   ·rw[if_pos d,if_pos d]
   ·rw[if_neg d,if_neg d]
    simp only[nW,cD,hl,if_false]
 ·show(hG q 21 _).get 20≠_
  rw[o];exactλe=>zG
 ·show(j.H.get (σ 20)).le σ ((hG q 21 _).get 20)
  have p:=k1.dF 20
  have r:=k1.dF 15
  rw[show(sN q k n F K b ks g x .any i).H.get 20=_ from o .any]at p
  rw[show(sN q k n F K b ks g x .any i).H.get 15=_ from v .any,k1.id 15 O]at r
  rw[o]
  unfold C4 at c
  cases G:cR j.t 6 with
  |own L m e=>
   rw[G]at c E
   obtain⟨rfl,_,_⟩:=E
   cases w:j.H.get (σ 20)with
   |rows Y Z f ac=>
    simp only[w]at c
    rw[w]at p
    cases y:j.H.get 15 with
    |cT mm KK P foc=>
     simp only[y]at c
     rw[y]at r
     cases foc with
     |none=>exact c.elim
     |some Q=>
      obtain⟨j0,a0⟩:=Q
      cases a0 with
      |ptr g0 R S z0=>
       have T:f n=[.ptr g0 R S z0]:=c
       rcases r with s|⟨_,_,_,s⟩|⟨_,s⟩
       ·cases s
       ·obtain⟨a1,f1,U⟩:=s n (.ptr 17 0 0 0) rfl
        cases f1
        rcases p with C|⟨V,W,u,X⟩|⟨_,C⟩
        ·cases C
        ·refine⟨V,W,λI hi=>?_,X⟩
         have u:=u I hi
         unfold oS at u⊢
         cases J:b_ I n with
         |false=>rw[J]at u;exact u
         |true=>
          have:=dE J
          subst this
          rw[T]
          exact⟨U,trivial⟩
        ·exact absurd C (by show¬ (n+1=0);omega)
       ·exact s.elim
      |_=>exact c.elim
    |_=>simp only[y]at c
   |_=>simp only[w]at c
  |_=>rw[G]at c;exact c.elim
def lK(N l:Nat):Nat:=if l<17 then l else N+(l-17)
def C7(N l:Nat):Nat:=if l=16 then N+3 else if l<N+3 then l else l+1
def uk(q:Query)(gs:List bj)(b:Nat->Nat):AH:=((fB q gs).set 15 (.cT gs.length (λj=>(aK gs j).key) (λj=> .addr (b j) 0) z)).set 16 (.rows gs.length 1 (eW b) (.ty 89))
def k8(q:Query)(gs:List bj)(b:Nat->Nat)(l:Nat):(uk q gs b).get l=if l=16 then .rows gs.length 1 (eW b) (.ty 89)else if l=15 then .cT gs.length (λj=>(aK gs j).key) (λj=> .addr (b j) 0) z else(fB q gs).get l:=by
 unfold uk;rw[c_,c_]
def oT(q:Query)(gs:List bj)(b:Nat->Nat)(ks:List Int)(x:bj)(l:Nat):ai :=
 if l=15 then .cT (gs.length+1) (cZ gs.length (λj=>(aK gs j).key) ks) (rW gs.length b) (d_ (gs.length,.ptr (17+3*gs.length) 0 0 0))else if l=16 then .dead else if l=17+3*gs.length then .cells [.ab q.ng 1 (ae x.W),.own (17+3*gs.length+1) 1 3,.own (17+3*gs.length+2) 1 1] (.ty 94)else if l=17+3*gs.length+1 then .rows 1 3 (az x.L x.G x.C) (.ty 99)else if l=17+3*gs.length+2 then .rows 1 1 (ae x.T) (.ty 3)
  else if l=17+3*gs.length+3 then .rows (gs.length+1) 1 (oS gs.length b (.ptr (17+3*gs.length) 0 0 0)) (.ty 89)else(uk q gs b).get l
def xb(q:Query)(gs:List bj)(b:Nat->Nat)(ks:List Int)(x:bj):AH:=AH.C5 (17+3*gs.length+4) (oT q gs b ks x)
def ic(q:Query)(gs:List bj)(b:Nat->Nat)(ks:List Int)(x:bj)(l:Nat):(xb q gs b ks x).get l=if l<17+3*gs.length+4 then oT q gs b ks x l else .dead:=AH.zr _ _ _
def mW{q:Query}{gs:List bj}{b:Nat->Nat}{ks:List Int}{x:bj}{l:Nat}(h:l<17+3*gs.length)(a:l≠15)(c:l≠16):oT q gs b ks x l=(fB q gs).get l:=by
 unfold oT
 rw[if_neg a,if_neg c,if_neg O,if_neg O,if_neg O,if_neg O,k8,if_neg c,if_neg a]
def gh(gs:List bj)(x:bj)(l:Nat):aK (gs++[x]) l=if l=gs.length then x else aK gs l:=by
 unfold aK
 simp only[List.getD_eq_getElem?_getD]
 by_cases h:l=gs.length
 ·subst h;simp
 ·rw[if_neg h]
  by_cases a:l<gs.length
  ·rw[List.getElem?_append_left a]
  ·rw[i_ zJ,i_ O]
def JG(σ:Nat->Nat)(n:Nat)(b:Nat->Nat)(l:Nat):(λi=>bt.bD σ (oS n b (.ptr l 0 0 0) i))=oS n b (.ptr (σ l) 0 0 0):=funext λi=>by
 unfold oS
 cases b_ i n<;>rfl
def JH(σ:Nat->Nat)(n:Nat)(b:Nat->Nat):(λi=>(rW n b i).bD σ)=rW n b:=funext λi=>by
 unfold rW
 cases b_ i n<;>rfl
def qK{i n:Nat}(h:i≠n):b_ i n=false:=by
 cases a:b_ i n with
 |false=>rfl
 |true=>exact absurd (dE a) h
set_option maxHeartbeats 4000000 in
def NU(q:Query)(k:Nat)(F:Nat->ay)(gs:List bj)(i:Nat)(x:bj)(kn:List (aC PP II))(hm:x.m=1)
  (small:∀b,kg kn 40 4001 17 {t:=tG k F (.own 16 gs.length 1) (i:Int),nt:=86,H:=hG q 17 (xa gs.length (λj=>(aK gs j).key) b),df:=[]} (sN q k gs.length F (λj=>(aK gs j).key) b x.key q.ng x .any (i:Int)) (C4 gs.length)):
  wZ q k F gs (gs++[x]) i:=by
 intro ro n c ρ a w ap C hE hr
 obtain⟨b,hb,J⟩:=C6 (n:=gs.length) (K:=λj=>(aK gs j).key) hr.heap (w4 q gs) (y3 q gs)
 have r0:Rel c ρ (uk q gs b) w:=J z (by rintro j' a e;cases e)
 have P:cA c ρ {Ha q k F gs i with H:=uk q gs b} a w:=⟨hr.tmp,r0,hr.df⟩
 have f:∀l,l<17->lK (17+3*gs.length) l=l:=λl h=>by unfold lK;rw[if_pos h]
 have r:∀l,17<=l->lK (17+3*gs.length) l=17+3*gs.length+(l-17):=λl h=>by unfold lK;rw[if_neg O]
 have nd:∀l,l<15->cD (xa gs.length (λj=>(aK gs j).key) b) l= .dead:=λl hl=>M λp=>by have:=rX p;omega
 have Q:∀l,l<15->cD (nW gs.length (λj=>(aK gs j).key) b x.key q.ng x (.ptr 17 0 0 0)) l= .dead:=λl hl=>tg O O O O O
 have hs:Sub c.G (lK (17+3*gs.length)) (hG q 17 (xa gs.length (λj=>(aK gs j).key) b)) (uk q gs b):=by
  rw[C]
  refine A4 zC nd (λl hl=>?_) (λl h=>?_) ?_ (λl h=>f l O) (λl h=>?_) (λl h=>r l h) (λl hl p=>?_) λl l' h h' e=>?_
  ·exact M λp=>by have:=rX p;omega
  ·rw[k8,if_neg O,if_neg O,lE h]
  ·rw[k8,if_neg O,if_neg O,oQ]
  ·rw[f l h];show l<17+3*gs.length;omega
  ·rcases rX p with rfl|rfl
   ·rw[f 15 zC,k8,if_neg O,if_pos A];rfl
   ·rw[f 16 zC,k8,if_pos A];rfl
  ·rw[f l h,f l' h']at e;exact e
 have a6:Eb (lK (17+3*gs.length)) (hG q 17 (xa gs.length (λj=>(aK gs j).key) b)) (hG q 21 (nW gs.length (λj=>(aK gs j).key) b x.key q.ng x (.ptr 17 0 0 0))) (uk q gs b) (xb q gs b x.key x):=by
  refine⟨?_,λl p=>?_,λl hl=>?_,λl hl R=>?_⟩
  ·show 17+3*gs.length+4=17+3*gs.length+(21-17);omega
  ·rw[eX nd]at p
   rw[eX Q]
   by_cases h:l<14
   ·rw[if_pos h,f l O,Fy λj hj=>f j O,ic,if_pos O,mW O O O,lE h]
   ·rw[if_neg h]at p⊢
    by_cases S:l=14
    ·subst S
     rw[if_pos A,f 14 O,ic,if_pos O,mW O O O,oQ];rfl
    ·rw[if_neg S]at p⊢
     rcases rX p with rfl|rfl
     ·rw[f 15 zC,ic,if_pos O]
      show oT _ _ _ _ _ 15=ai.cT _ _ (λi=>(rW gs.length b i).bD _) (d_ (gs.length,.ptr (lK (17+3*gs.length) 17) 0 0 0))
      rw[JH]
      unfold oT
      rw[if_pos A];rfl
     ·rw[f 16 zC,ic,if_pos O]
      unfold oT
      rw[if_neg O,if_pos A];rfl
  ·have hl:17<=l:=hl
   rw[eX Q,if_neg O,if_neg O,r l hl,ic]
   by_cases T:l=17
   ·subst T
    rw[if_pos O]
    unfold oT
    rw[if_neg O,if_neg O,if_pos O];rfl
   ·by_cases U:l=18
    ·subst U
     rw[if_pos O]
     unfold oT
     rw[if_neg O,if_neg O,if_neg O,if_pos O];rfl
    ·by_cases V:l=19
     ·subst V
      rw[if_pos O]
      unfold oT
      rw[if_neg O,if_neg O,if_neg O,if_neg O,if_pos O];rfl
     ·by_cases W:l=20
      ·subst W
       rw[if_pos O]
       show _=ai.rows _ _ (λi=>bt.bD _ (oS gs.length b (.ptr 17 0 0 0) i)) _
       rw[JG]
       unfold oT
       rw[if_neg O,if_neg O,if_neg O,if_neg O,if_neg O,if_pos O];rfl
      ·rw[if_neg O,tg O T U V W];rfl
  ·have hl:l<17+3*gs.length:=hl
   have X:l≠15:=λe=>R 15 (by rw[eX nd,if_neg O,if_neg O];exactλe=>zG) (by rw[f 15 O];exact e.symm)
   have Y:l≠16:=λe=>R 16 (by rw[eX nd,if_neg O,if_neg O];exactλe=>zG) (by rw[f 16 O];exact e.symm)
   rw[ic,if_pos O,mW hl X Y,k8,if_neg Y,if_neg X]
 refine wpIn_mono (td (SB:={Ha q k F gs i with H:=uk q gs b}) (small b) (λl=>tf (f 14 zC) (f 15 zC) (by show _=o_ (lK _ 16) _ _;rw[f 16 zC]) l) A ⟨rfl,rfl⟩ ro n c ρ a w ap C hs P) λy a1 w1 hp=>?_
 obtain⟨rfl,s1,a8,l1,lp,r1⟩:=hp
 obtain⟨bc,_,r2⟩:=r1.view (FC l1 lp) (by show c.G<=17;rw[C];decide) (λl hl=>hl)
 obtain⟨I,hx,_,r3⟩:=pJ (s:={t:=tG k F (.own 16 gs.length 1) (i:Int),nt:=86,H:=hG q 17 (xa gs.length (λj=>(aK gs j).key) b),df:=[]}) (SB':={t:=tG k F (.own (17+3*gs.length+3) (gs.length+1) 1) ((i:Int)+1),nt:=86,H:=xb q gs b x.key x,df:=[]}) P hs r2 a6 (λl=>tf (f 14 zC) (f 15 zC) (by show _=o_ (lK _ 20) _ _;rw[r 20 zC]) l) A ⟨rfl,rfl⟩
 have back:∀l,l<gs.length->∀v,VR I (.addr (b l) 0) v->VR I (.ptr (17+3*l) 0 0 0) v:=λl hl v u=>by
  obtain⟨N,e⟩:=hb l hl
  refine oO.2 ⟨b l,N,hx _ _ e,?_⟩
  simpa only[VR]using u
 have Z:(xb q gs b x.key x).get 15= .cT (gs.length+1) (cZ gs.length (λj=>(aK gs j).key) x.key) (rW gs.length b) (d_ (gs.length,.ptr (17+3*gs.length) 0 0 0)):=by
  rw[ic,if_pos O]
  unfold oT
  rw[if_pos A]
 have a7:(xb q gs b x.key x).get (17+3*gs.length+3)= .rows (gs.length+1) 1 (oS gs.length b (.ptr (17+3*gs.length) 0 0 0)) (.ty 89):=by
  rw[ic,if_pos O]
  unfold oT
  rw[if_neg O,if_neg O,if_neg O,if_neg O,if_neg O,if_pos A]
 have r4:=G8 (L:=17+3*gs.length+3) r3.heap O Z a7 (λl=>by unfold oS;cases b_ l gs.length<;>rfl) (λl hl=>by
   by_cases e:l=gs.length
   ·exact .inl (by rw[e])
   ·refine .inr λv u=>back l O v ?_
    unfold rW at u
    rw[qK e]at u;exact u) λl hl v u=>by
   unfold oS at u
   by_cases e:l=gs.length
   ·subst e
    rw[ni]at u;exact(aU.aL.1 u).1
   ·rw[qK e]at u
    exact back l O v (aU.aL.1 u).1
 have D:∀l,(((xb q gs b x.key x).set 15 (.cT (gs.length+1) (cZ gs.length (λj=>(aK gs j).key) x.key) (λj=> .ptr (17+3*j) 0 0 0) z)).set (17+3*gs.length+3) (.rows (gs.length+1) 1 oe (.ty 89))).get l=if l=17+3*gs.length+3 then .rows (gs.length+1) 1 oe (.ty 89)else if l=15 then .cT (gs.length+1) (cZ gs.length (λj=>(aK gs j).key) x.key) (λj=> .ptr (17+3*j) 0 0 0) z else if l<17+3*gs.length+4 then oT q gs b x.key x l else .dead:=λl=>by
  rw[c_,c_,ic]
 have g:∀l,l<17+3*gs.length+3->l≠16->C7 (17+3*gs.length) l=l:=λl h h1=>by unfold C7;rw[if_neg h1,if_pos h]
 have E:C7 (17+3*gs.length) 16=17+3*gs.length+3:=by unfold C7;rw[if_pos A]
 have o:(gs++[x]).length=gs.length+1:=zA
 have ad:l_ 16 (C7 (17+3*gs.length)) (((xb q gs b x.key x).set 15 (.cT (gs.length+1) (cZ gs.length (λj=>(aK gs j).key) x.key) (λj=> .ptr (17+3*j) 0 0 0) z)).set (17+3*gs.length+3) (.rows (gs.length+1) 1 oe (.ty 89))) (fB q (gs++[x])):=by
  refine⟨?_,λl hl=>g l O O,λl hl=>?_,λl=>?_,λl l' _ _ e _=>?_,λl hl=>w5 hl⟩
  ·show 16<=17+3*(gs++[x]).length;omega
  ·have hl:17+3*(gs++[x]).length<=l:=hl
   rw[o]at hl
   show 17+3*gs.length+4<=C7 _ l
   unfold C7
   rw[if_neg O,if_neg O];omega
  ·rcases w6 (gs.length+1) l with h|rfl|rfl|rfl|⟨i',d,hi,p,rfl⟩|h
   ·refine .inr (.inl ?_)
    rw[lE h,g l O O,D,if_neg O,if_neg O,if_pos O,mW O O O,lE h]
    exact G9 (λj hj=>g j O O) l
   ·refine .inr (.inl ?_)
    rw[oQ,g 14 O O,D,if_neg O,if_neg O,if_pos O,mW O O O,oQ]
    exact⟨iY _ _,rfl⟩
   ·refine .inr (.inl ?_)
    rw[w4,g 15 O O,D,if_neg O,if_pos A]
    refine⟨o.symm,λl hl=>?_,λl hl=>⟨(g _ O O).symm,rfl,rfl,rfl⟩,λ_ _ e=>zG⟩
    show cZ _ _ _ l=(aK (gs++[x]) l).key
    rw[gh]
    unfold cZ
    by_cases h:l=gs.length
    ·rw[if_pos h,h,ni];rfl
    ·rw[if_neg h,qK h];rfl
   ·refine .inr (.inl ?_)
    rw[y3,E,D,if_pos A]
    exact⟨o.symm,rfl,λl hl=>⟨⟨(g _ O O).symm,rfl,rfl,rfl⟩,trivial⟩,rfl⟩
   ·refine .inr (.inl ?_)
    rw[lV (by rw[o];exact hi) p,gh]
    by_cases ag:i'=gs.length
    ·subst ag
     rw[if_pos A]
     match d,p with
     |0,_=>
      rw[m_,g _ O O,D,if_neg O,if_neg O,if_pos O]
      unfold oT
      rw[if_neg O,if_neg O,if_pos (m_ _)]
      exact⟨⟨⟨rfl,rfl,λi _=>jw _ _ i⟩,⟨(g _ O O).symm,hm.symm,rfl⟩,⟨(g _ O O).symm,hm.symm,rfl⟩,trivial⟩,rfl⟩
     |1,_=>
      rw[g _ O O,D,if_neg O,if_neg O,if_pos O]
      unfold oT
      rw[if_neg O,if_neg O,if_neg O,if_pos A]
      exact⟨hm.symm,rfl,λi _=>kS _ _ _ _ i,rfl⟩
     |2,_=>
      rw[g _ O O,D,if_neg O,if_neg O,if_pos O]
      unfold oT
      rw[if_neg O,if_neg O,if_neg O,if_neg O,if_pos A]
      exact⟨hm.symm,rfl,λi _=>jw _ _ i,rfl⟩
    ·rw[if_neg ag,g _ O O,D,if_neg O,if_neg O,if_pos O,mW O O O,lV O p]
     exact Hb p λe=>⟨g _ O O,g _ O O⟩
   ·exact .inl (w5 (by rw[o];exact h))
  ·unfold C7 at e
   split at e<;>split at e<;>(try split at e)<;>(try split at e)<;>omega
 have r5:=r4.view ad (by rw[C];decide) hE
 refine⟨rfl,_,(iU.of hx).trans (ad.ext I),⟨r3.tmp.1,λl=>?_⟩,r5,r3.df⟩
 refine VR.le _ _ _ ?_ (r3.tmp.2 l)
 show k_ _ (cR (tG k F (.own (17+3*gs.length+3) (gs.length+1) 1) ((i:Int)+1)) l) (cR (tG k F (.own 16 (gs++[x]).length 1) ((i:Int)+1)) l)
 rw[o]
 exact NS (g 14 O O) (g 15 O O) (show k_ _ (.own (17+3*gs.length+3) (gs.length+1) 1) (.own 16 (gs.length+1) 1)from⟨E.symm,rfl,rfl⟩) l
def km(q:Query)(gs:List bj)(i:Nat)(x:ay):List bj :=
 bif gk q x then
  match jD gs.length (λj=>(aK gs j).key) (FA q x)with
  |some j=>gs.set j {key:=(aK gs j).key,W:=(aK gs j).W,m:=(aK gs j).m+1,L:=gV (aK gs j).L (aK gs j).m (kR q x),G:=gV (aK gs j).G (aK gs j).m (lJ q x),C:=uj (aK gs j).C (aK gs j).m (Br q x),T:=gV (aK gs j).T (aK gs j).m (i:Int)}
  |none=>gs++[{key:=FA q x,W:=aj q x,m:=1,L:=λ_=>kR q x,G:=λ_=>lJ q x,C:=λ_=>Br q x,T:=λ_=>(i:Int)}]
 else gs
def aV(q:Query)(F:Nat->ay):Nat->List bj
 |0=>[]
 |i+1=>km q (aV q F i) i (F i)
def lF{n:Nat}{K:Nat->List Int}{ks:List Int}{j:Nat}(h:jD n K ks=d_ j):j<n/\K j=ks:=by
 unfold jD at h
 have a:=List.mem_of_find?_eq_some h
 have b:=List.find?_some h
 exact⟨List.mem_range.1 a,by simpa using b⟩
def xc{n:Nat}{K:Nat->List Int}{ks:List Int}(h:jD n K ks=z):∀j,j<n->K j≠ks:=λj a e=>by
 unfold jD at h
 have:=List.find?_eq_none.1 h j (List.mem_range.2 a)
 simp[e]at this
def FD{n:Nat}{K:Nat->List Int}{ks:List Int}(h:jD n K ks=z):jD (n+1) (cZ n K ks) ks=d_ n:=by
 unfold jD
 rw[List.range_succ,List.find?_append]
 have:(a_ n).find? (λi=>cZ n K ks i==ks)=z:=by
  rw[List.find?_eq_none]
  intro i hi
  have hi:=List.mem_range.1 hi
  unfold cZ
  rw[qK O]
  simpa using xc h i hi
 rw[this]
 simp[cZ]
structure Hc (gs:List bj) (i:Nat):Prop where
 len:gs.length<=i
 keys:∀a,a<gs.length->(aK gs a).key.length=3
 ms:∀a,a<gs.length->(aK gs a).m<=i
def lG(q:Query)(F:Nat->ay):∀i,Hc (aV q F i) i
 |0=>⟨dw _,λj a=>absurd a (by simp[aV]),λj a=>absurd a (by simp[aV])⟩
 |i+1=>by
  obtain⟨d,b,c⟩:=lG q F i
  show Hc (km q (aV q F i) i (F i)) (i+1)
  unfold km
  cases gk q (F i)with
  |false=>exact⟨by show(aV q F i).length<=_;omega,b,λj a=>e_ (c j a)⟩
  |true=>
   simp only[cond_true]
   split
   ·rename_i j a
    obtain⟨a,_⟩:=lF a
    refine⟨by rw[f_];omega,λl hl=>?_,λl hl=>?_⟩
    ·rw[f_]at hl
     rw[gg a]
     by_cases h:l=j
     ·rw[if_pos h];exact b j a
     ·rw[if_neg h];exact b l hl
    ·rw[f_]at hl
     rw[gg a]
     by_cases h:l=j
     ·rw[if_pos h];exact Nat.succ_le_succ (c j a)
     ·rw[if_neg h];exact e_ (c l hl)
   ·refine⟨by simp;omega,λl hl=>?_,λl hl=>?_⟩
    ·rw[gh]
     by_cases h:l=(aV q F i).length
     ·rw[if_pos h];rfl
     ·rw[if_neg h];exact b l (by simp at hl;omega)
    ·rw[gh]
     by_cases h:l=(aV q F i).length
     ·rw[if_pos h];show 1<=i+1;omega
     ·rw[if_neg h];exact e_ (c l (by simp at hl;omega))
def C8{n:Nat}{K:Nat->List Int}(h:∀j,j<n->(K j).length=3):ln n K 3=true:=by
 unfold ln
 rw[List.all_eq_true]
 intro j a
 rw[h j (List.mem_range.1 a)];rfl
def Xs{q:Query}(h:ct q=true):q.ng<=3:=by
 have:=(eb h).2.2
 unfold eU at this
 simp only[bf,bn]at this
 omega
def JI(q:Query)(k:Nat)(F:Nat->ay)(i:Nat)(hi:i<k)(d:k<=1000000)(a:ct q=true)(e:bB (F i)=true):wZ q k F (aV q F i) (aV q F (i+1)) i:=by
 show wZ q k F (aV q F i) (km q (aV q F i) i (F i)) i
 obtain⟨r,l,n⟩:=lG q F i
 unfold km
 cases hp:gk q (F i)with
 |false=>exact JC q k F _ i hi d a e hp
 |true=>
  simp only[cond_true]
  have m:=C8 l
  split
  ·rename_i j c
   obtain⟨f,_⟩:=lF c
   have g:uI (aV q F i).length (λj=>(aK (aV q F i) j).key) (FA q (F i)) j=true:=by unfold uI;rw[c];exact ni j
   have s:=n j f
   have a1:=Bool.and_eq_true_iff.2 ⟨m,g⟩
   refine NT q k F _ i j _ [jW q,qj q q.ng] f A A A λb=>?_
   exact JE q k _ F _ b j _ _ _ _ _ _ i hi d O a (Xs a) e hp a1
  ·rename_i c
   have g:Kv (aV q F i).length (λj=>(aK (aV q F i) j).key) (FA q (F i))=true:=by unfold Kv;rw[c]
   have o:uI ((aV q F i).length+1) (cZ (aV q F i).length (λj=>(aK (aV q F i) j).key) (FA q (F i))) (FA q (F i)) (aV q F i).length=true:=by unfold uI;rw[FD c];exact ni _
   have p:ln ((aV q F i).length+1) (cZ (aV q F i).length (λj=>(aK (aV q F i) j).key) (FA q (F i))) 3=true:=C8 λj f=>by
    unfold cZ
    by_cases h:j=(aV q F i).length
    ·rw[h,ni];rfl
    ·rw[qK h];exact l j O
   have a1:=Bool.and_eq_true_iff.2 ⟨m,g⟩
   have a2:=Bool.and_eq_true_iff.2 ⟨p,o⟩
   refine NU q k F _ i _ [jW q,qj q q.ng] rfl λb=>?_
   exact JF q k _ F _ b i hi d O a (Xs a) e hp a1 a2
abbrev XZ(ks:List (aC PP II))(f key n0:Nat)(s a:St):Prop :=
 uA ks (mG PP II []) 1000 false (.code (aD II f key)) s {n:=λ_=>False,x:=λi b=>i=0/\mF n0 b a True,g:=λ_ _=>False,r:=λ_=>False,p:=λ_ _=>False}
def QW(q:Query)(k:Nat)(F:Nat->ay)(n:Nat)(i:Int){b}(c:b=[AV.ab q.nw 3 (au q.C),AV.ab q.ng 1 (aR q.G),p_ .i64 q.a,p_ .i64 q.fl,AV.str q.nu,AV.str q.de,p_ .i64 q.top]):(XZ [jW q,qj q 0] 40 4001 17 (ui q k F 0 0 0 (.own 16 n 1) i false) (ui q k F 0 0 0 (.own 16 n 1) i false))=(ah (decide (i<Int.ofNat k)) (B (decide (0<=i)&&decide (i<Int.ofNat k)) (B (qT q b&&ct q&&bB (F i.toNat)) (ah (!gk q (F i.toNat)) (B (aN .i64 (i+1)) False) (B (qT q b&&ct q&&bB (F i.toNat)&&b_ q.ng 0) False)))) (0=0/\zyN q.nw (zyR q.nw (au q.C) (zyN q.ng (zyR q.ng (aR q.G) (zyI q.a (zyI q.fl (zyB q.nu (zyB q.de (zyI q.top (zyB [48] (zyB [49] (zyR 5 aA (zyN k ((an k (λi=>aF (F i)) λi=>aF (F i))/\zyI i (zyI (Int.ofNat k) (zyN n True))))))))))))))))):=by subst_vars;kernel_rfl
def JJ(q:Query)(k:Nat)(F:Nat->ay)(n i:Nat)(hi:k<=i):XZ [jW q,qj q 0] 40 4001 17 (ui q k F 0 0 0 (.own 16 n 1) (i:Int) false) (ui q k F 0 0 0 (.own 16 n 1) (i:Int) false):=by
 rw[QW _ _ _ _ _ A]
 have fl:=gU k F
 have a:Int.ofNat k=(k:Int):=rfl
 refine Zg (λh=>absurd h O) (λ_=>?_)
 repeat' (with_reducible first|refine Zf A ?_|refine YG A ?_|refine Zi A ?_|refine And.intro ?_ ?_|exact bC _ _|exact bO _ _|exact aZ|exact fl|exact trivial|exact A)
section
def qL(g:Nat)(x:bj):List AV:=[.ab g 1 (ae x.W),.ab x.m 3 (az x.L x.G x.C),.ab x.m 1 (ae x.T)]
theorem JK(W:Nat->Int)(n:Nat):((a_ n).all λi=>bt.free (ae W i))=true:=List.all_eq_true.2 λ_ _=>rfl
theorem FE(L G:Nat->Int)(C:Nat->Bool)(n:Nat):((a_ n).all λi=>bt.free (az L G C i))=true:=List.all_eq_true.2 λ_ _=>rfl
section
variable {R:Type} (X:RI R)
theorem QX{d:Nat}{H H1:AH}{l k e j:Nat}{cs:List AV}{ac:Access}(K:AV->AH->R)(b:l6 H l=d_ H1)(c:H1.get l= .cells cs ac):qC X (d+1) (.ptr l k e j) H K=jK X d cs H1 λa H2=>K (.fc a (k*e+j)) H2:=by
 simp only[qC]
 rw[b]
 simp only[c]
theorem A6{d:Nat}{H H1:AH}{l n m e:Nat}{f:Nat->List AV}{ac:Access}(K:AV->AH->R)(a:l6 H l=d_ H1)(b:H1.get l= .rows n e f ac):qC X (d+1) (.own l m e) H K=X.ak (((a_ n).all λi=>bt.free (f i))&&decide (m<=n)) (K (.ab m e f) H1):=by
 simp only[qC]
 rw[a]
 simp only[b,if_true]
theorem Ux{d:Nat}{H:AH}{n e:Nat}{f:Nat->List AV}(K:AV->AH->R):qC X (d+1) (.ab n e f) H K=K (.ab n e f) H:=by
 simp only[qC]
theorem th{d:Nat}{H:AH}{a:AV}{cs:List AV}(K:List AV->AH->R):jK X (d+1) (a::cs) H K=qC X d a H λx H1=>jK X d cs H1 λb H2=>K (x::b) H2:=by
 simp only[jK]
theorem NW{d:Nat}{H:AH}(K:List AV->AH->R):jK X (d+1) [] H K=K [] H:=by
 simp only[jK]
end
theorem JL{H H1 H2 a:AH}{l l1 l2 g m:Nat}{w f s:Nat->List AV}{a0 a1 a2:Access}{d:Nat}(b:l6 H l=d_ H1)(c:H1.get l= .cells [.ab g 1 w,.own l1 m 3,.own l2 m 1] a0)(e:l6 H1 l1=d_ H2)(g1:H2.get l1= .rows m 3 f a1)(j:l6 H2 l2=d_ a)(g2:a.get l2= .rows m 1 s a2)
  (k:((a_ m).all λi=>bt.free (f i))=true) (n:((a_ m).all λi=>bt.free (s i))=true):j4 (.ptr l 0 0 0) H (.fc [.ab g 1 w,.ab m 3 f,.ab m 1 s] 0) a:=by
 have h:qC RI.jY (d+6) (.ptr l 0 0 0) H (λa' H'=>a'= .fc [.ab g 1 w,.ab m 3 f,.ab m 1 s] 0/\H'=a):=by
  rw[QX RI.jY _ b c,th,Ux,th,A6 RI.jY _ e g1]
  refine Ze (by rw[k,bW (dw m)];rfl) ?_
  rw[th,A6 RI.jY _ j g2]
  refine Ze (by rw[n,bW (dw m)];rfl) ?_
  rw[NW]
  exact⟨rfl,rfl⟩
 obtain⟨a',H',⟨rfl,rfl⟩,o⟩:=lm (sem:=id) RI.dJ (d+6) (.ptr l 0 0 0) H _ h
 exact o
theorem NX{H:AH}{l g:Nat}{x:bj}(a:H.get l=lU x g l 0)(b:H.get (l+1)=lU x g l 1)(c:H.get (l+2)=lU x g l 2):
  j4 (.ptr l 0 0 0) H (.fc (qL g x) 0) (((H.set l (.cells [.ab g 1 (ae x.W),.own (l+1) x.m 3,.own (l+2) x.m 1] .ro)).set (l+1) (.rows x.m 3 (az x.L x.G x.C) .ro)).set (l+2) (.rows x.m 1 (ae x.T) .ro)):=by
 refine JL (d:=0) (H1:=H.set l (.cells [.ab g 1 (ae x.W),.own (l+1) x.m 3,.own (l+2) x.m 1] .ro)) (H2:=(H.set l (.cells [.ab g 1 (ae x.W),.own (l+1) x.m 3,.own (l+2) x.m 1] .ro)).set (l+1) (.rows x.m 3 (az x.L x.G x.C) .ro)) ?_ (g_ _ _ _) ?_ (g_ _ _ _) ?_ (g_ _ _ _) (FE _ _ _ _) (JK _ _)
 ·unfold l6;rw[a];rfl
 ·unfold l6;rw[c_,if_neg O,b];rfl
 ·unfold l6;rw[c_,if_neg O,c_,if_neg O,c];rfl
end
def fj(g:Nat)(gs:List bj)(i:Nat):List AV:=[.fc (qL g (aK gs i)) 0]
def C9(g:Nat)(gs:List bj):List (Nat×ai):=[(16,.rows gs.length 1 (fj g gs) (.ty 89))]
def JM(q:Query)(gs:List bj):St:={t:=Tr.ofList [(6,.own 16 gs.length 1)],nt:=86,H:=hG q 17 (C9 q.ng gs),df:=[]}
def ul{q:Query}{gs:List bj}{c:fw}{ρ:Env}{w:World}(h:Rel c ρ (fB q gs) w):∀j,j<=gs.length->
  ∃ρ' H',Ext ρ ρ'/\Rel c ρ' H' w/\H'.n=17+3*gs.length/\(∀l,l<17->H'.get l=(fB q gs).get l)/\(∀i d,j<=i->i<gs.length->d<3->H'.get (17+3*i+d)=lU (aK gs i) q.ng (17+3*i+d) d)/\
   ∀i,i<j->∀v,VR ρ (.ptr (17+3*i) 0 0 0) v->VR ρ'.bare (.fc (qL q.ng (aK gs i)) 0) v
 |0,_=>⟨ρ,_,Ext.refl ρ,h,rfl,λ_ _=>rfl,λi d _ hi m=>lV hi m,λi hi=>absurd hi (lZ _)⟩
 |j+1,J=>by
  obtain⟨o,H1,s,r1,n1,lo,a,old⟩:=ul h j O
  have f:=h.dF 15
  rw[w4]at f
  obtain⟨_,_,u,_,_,D,_⟩:=f
  have t:VR ρ (.ptr (17+3*j) 0 0 0) (u j):=D j O
  have E:=a j 0 (dw _) O O
  have t1:=a j 1 (dw _) O O
  have t2:=a j 2 (dw _) O O
  obtain⟨fn,F⟩:=NX (H:=H1) (l:=17+3*j) (g:=q.ng) (x:=aK gs j) E t1 t2
  obtain⟨p,y,G,C⟩:=F c o w (u j) r1 (VR.ext s _ _ t)
  refine⟨p,_,s.trans y,G,fn.trans n1,λl hl=>?_,λi d hi r m=>?_,λi hi v k=>?_⟩
  ·rw[c_,if_neg O,c_,if_neg O,c_,if_neg O,lo l hl]
  ·rw[c_,if_neg O,c_,if_neg O,c_,if_neg O,a i d O r m]
  ·by_cases e:i=j
   ·subst e
    obtain⟨b,N,a1,rfl⟩:=oO.1 k
    obtain⟨K,L,a2,I⟩:=oO.1 t
    rw[a1]at a2
    cases a2
    rw[I]at C
    exact C
   ·exact VR.ext y.bare _ _ (old i O v k)
def FF{q:Query}{gs:List bj}{c:fw}{ρ:Env}{w:World}(H:Rel c ρ (fB q gs) w)(y:c.G=II.G)(K:∀l,c.E l->l<16):
  ∃ρ',iU 17 ρ ρ'/\Rel c ρ' (hG q 17 (C9 q.ng gs)) w/\∀a v,k_ (lK (17+3*gs.length)) a a->VR ρ a v->VR ρ' a v:=by
 obtain⟨o,H1,C,r1,n1,lo,_,old⟩:=ul H gs.length (dw _)
 have nd:∀l,l<15->cD (C9 q.ng gs) l= .dead:=λl hl=>by
  simp only[C9,cD];rw[if_neg O]
 have conv:∀i,i<gs.length->∀v,VR o (.ptr (17+3*i) 0 0 0) v->VR o (.fc (qL q.ng (aK gs i)) 0) v:=λi hi v k=>by
  have s:=H.dF 15
  rw[w4]at s
  obtain⟨_,_,u,_,_,L,_⟩:=s
  have I:=L i hi
  have:=VR.ext (Ext.qU o) _ _ (old i hi _ I)
  obtain⟨b,N,a1,rfl⟩:=oO.1 k
  obtain⟨Z,N',a2,P⟩:=oO.1 (VR.ext C _ _ I)
  rw[a1]at a2
  cases a2
  rw[P]at this
  exact this
 have g:∀l,(H1.set 16 (.rows gs.length 1 (fj q.ng gs) (.ty 89))).get l=if l=16 then .rows gs.length 1 (fj q.ng gs) (.ty 89)else H1.get l:=λl=>c_ _ _ _ _
 have m:H1.get 16= .rows gs.length 1 oe (.ty 89):=by rw[lo 16 O,y3]
 have Q:Rel c o (H1.set 16 (.rows gs.length 1 (fj q.ng gs) (.ty 89))) w:=by
  refine r1.alike A (λl hl=>?_) (λl=>?_) λl=>?_
  ·rw[g]
   by_cases r:l=16
   ·subst r
    rw[if_pos A]
    rw[m]at hl
    refine⟨λ_ _=>rfl,?_⟩
    rcases hl.2 with⟨h1,D⟩|⟨bb,N,vs,rest,el,fr,h1,D,R,S,T⟩
    ·left
     refine⟨?_,D⟩
     cases hn:gs.length with
     |zero=>rfl
     |succ n=>
      rw[hn]at h1
      have:=congrArg List.length h1
      rw[bE (n:=n+1) (e:=1) (f:=oe) λ_ _=>rfl]at this
      simp at this
    ·right
     refine⟨bb,N,vs,rest,el,fr,h1,D,R,?_,T⟩
     obtain⟨U,V⟩:=mT (f:=oe) (λ_=>rfl) S
     refine oI U λi hi=>?_
     obtain⟨v,W,X⟩:=V i hi
     exact⟨v,W,aU.aL.2 ⟨conv i hi v (aU.aL.1 X).1,zH⟩⟩
   ·rw[if_neg r];exact hl
  ·rw[g]
   by_cases r:l=16
   ·subst r;rw[if_pos A,m];rfl
   ·rw[if_neg r]
  ·rw[g]
   by_cases r:l=16
   ·subst r;rw[if_pos A,m];exact⟨(λe=>zG),(λe=>zG)⟩
   ·rw[if_neg r]
 have d:∀l,l<17->lK (17+3*gs.length) l=l:=λl h=>by unfold lK;rw[if_pos h]
 have t:l_ 17 (lK (17+3*gs.length)) (H1.set 16 (.rows gs.length 1 (fj q.ng gs) (.ty 89))) (hG q 17 (C9 q.ng gs)):=by
  have p:∀l,(hG q 17 (C9 q.ng gs)).get l≠ .dead->l<17:=λl F=>Nat.lt_of_not_le λhl=>F (by
   rw[eX nd,if_neg O,if_neg O]
   simp only[C9,cD];rw[if_neg O])
  refine⟨dw _,d,λl hl=>?_,λl=>?_,λl J k Y e _=>?_,λl hl=>?_⟩
  ·show H1.n<=_
   have hl:17<=l:=hl
   unfold lK;rw[if_neg O];omega
  ·rw[eX nd]
   by_cases h:l<14
   ·refine .inr (.inl ?_)
    rw[if_pos h,d l O,g,if_neg O,lo l O,lE h]
    exact G9 (λj hj=>d j O) l
   ·rw[if_neg h]
    by_cases x:l=14
    ·refine .inr (.inl ?_)
     subst x
     rw[if_pos A,d 14 O,g,if_neg O,lo 14 O,oQ]
     exact⟨iY _ _,rfl⟩
    ·rw[if_neg x]
     by_cases m:l=16
     ·refine .inr (.inl ?_)
      subst m
      rw[d 16 O,g,if_pos A]
      exact⟨rfl,rfl,λi hi=>⟨⟨⟨⟨rfl,rfl,λj _=>jw _ _ j⟩,⟨rfl,rfl,λj _=>kS _ _ _ _ j⟩,⟨rfl,rfl,λj _=>jw _ _ j⟩,trivial⟩,rfl⟩,trivial⟩,rfl⟩
     ·refine .inl ?_
      simp only[C9,cD];rw[if_neg m]
  ·rw[d l (p l k),d J (p J Y)]at e;exact e
  ·exact M λF=>by
    have:=p l F
    have hl:17<=l:=hl
    omega
 exact⟨_,(iU.of C).trans (t.ext o),Q.view t (by rw[y];decide) (λl hl=>by have:=K l hl;omega),λa v h k=>VR.le _ _ _ h (VR.ext C _ _ k)⟩
def NY{ks:List (aC PP II)}{f key n0:Nat}{s C:St}(h:XZ ks f key n0 s C){SB:St}{σ:Nat->Nat}(ht:∀i,cR SB.t i=(cR s.t i).bD σ)(o:SB.nt=s.nt)(l:s.df=[]/\SB.df=[])
  (ro:Option Nat) (n:Nat) (c:fw) (ρ:Env) (a:Act) (w:World) (q:ro=z) (hG:c.G=II.G) (F:Sub c.G σ s.H SB.H) (m:cA c ρ SB a w):
  (aD II f key).wpIn (WF ro) n PP (λx a1 D=>x= .exit 0/\∃d j,St.Le n0 d C/\cA (c.iT ρ s.H SB.H σ w) j d a1 D) a w:=by
 obtain⟨e,k,I⟩:=nH iw ks (bm PP II []) 1000 false _ _ _ h
 have u:cA (c.iT ρ s.H SB.H σ w) (ρ.fC σ) s a w:=by
  refine⟨⟨m.tmp.1.trans o,λi=>?_⟩,m.heap.iT F,?_⟩
  ·have:=m.tmp.2 i
   rw[ht]at this
   exact VR.gR _ _ this
  ·have:=m.df
   rw[l.2]at this
   rw[l.1]
   exact this
 have J:(aD II f key).wpIn (WF ro) n PP (e.post (c.iT ρ s.H SB.H σ w) (ρ.fC σ)) a w:=I ro n (c.iT ρ s.H SB.H σ w) (ρ.fC σ) a w (λ_=>q) hG u
 refine wpIn_mono J λx a1 D E=>?_
 cases e with
 |x b d=>
  cases x with
  |exit id=>
   obtain⟨rfl,j,_,y⟩:=E
   obtain⟨rfl,k⟩:=k
   obtain⟨k1,_⟩:=mF.ok (K:=True) k
   exact⟨rfl,d,j,k1,y⟩
  |_=>exact E.elim
 |n d=>exact(k:False).elim
 |g b d=>exact(k:False).elim
 |r d=>exact(k:False).elim
 |p v d=>exact(k:False).elim
def NZ{S:Nat->St}{E:aQ}{n0 k:Nat}{c:Code}
  (g:∀i,i<k->∀n b ρ a w,b.G=II.G->(∀l,b.E l->l<n0)->cA b ρ (S i) a w->c.wpIn (WF z) n PP (λx a1 f=>x= .normal/\∃ρ',iU n0 ρ ρ'/\cA b ρ' (S (i+1)) a1 f) a w)
  (last:∀n b ρ a w,b.G=II.G->(∀l,b.E l->l<n0)->cA b ρ (S k) a w->c.wpIn (WF z) n PP (λx a1 f=>x≠ .normal/\E.kx n0 b ρ x a1 f) a w):
  ∀d i,i+d=k->∀t,t= .inLoop c∨t= .code (.loop c)->∀n b ρ a w,b.G=II.G->(∀l,b.E l->l<n0)->cA b ρ (S i) a w->fG (WF z) n PP t (E.kx n0 b ρ) a w:=by
 intro d
 induction d with
 |zero=>
  intro i hi t ht n b ρ a w hG h j
  have:i=k:=O
  subst this
  refine mB t ht (wpIn_mono (last n b ρ a w hG h j) λx a1 f e=>?_)
  obtain⟨hx,e⟩:=e
  cases x with
  |normal=>exact absurd A hx
  |_=>exact e
 |succ d m=>
  intro i hi t ht n b ρ a w hG h j
  refine mB t ht (wpIn_mono (g i O n b ρ a w hG h j) λx a1 f e=>?_)
  obtain⟨rfl,ρ',o,p⟩:=e
  exact(m (i+1) O (.inLoop c) (.inl A) n b ρ' a1 f hG h p).mono λx a w e=>aQ.ja o e
def N1(q:Query)(k:Nat)(F:Nat->ay)(gs:List bj)(n:Nat)(c:fw)(ρ:Env)(a:Act)(w:World)(d:c.G=II.G)(C:∀l,c.E l->l<16)(r:cA c ρ (Ha q k F gs k) a w):
  (aD II 40 4001).wpIn (WF z) n PP (λx a1 s=>x≠ .normal/\(aQ.x 0 (JM q gs)).kx 16 c ρ x a1 s) a w:=by
 have b:∀l,l<17->lK (17+3*gs.length) l=l:=λl h=>by unfold lK;rw[if_pos h]
 have f:∀l,17<=l->lK (17+3*gs.length) l=17+3*gs.length+(l-17):=λl h=>by unfold lK;rw[if_neg O]
 have nil:∀x,cD [] x= .dead:=λ_=>rfl
 have i:Sub c.G (lK (17+3*gs.length)) (hG q 17 []) (fB q gs):=by
  rw[d]
  refine A4 (H:=fB q gs) zC (λ_ _=>rfl) (λ_ _=>rfl) (λl h=>lE h) (oQ q gs) (λl h=>b l O) (λl h=>?_) (λl h=>f l h) (λl _ o=>absurd (nil l) o) λl D h I e=>by rw[b l h,b D I]at e;exact e
  rw[b l h];show l<17+3*gs.length;omega
 have p:Eb (lK (17+3*gs.length)) (hG q 17 []) (hG q 17 []) (fB q gs) (fB q gs):=
  {n:=by show 17+3*gs.length=17+3*gs.length+(17-17);omega
   old:=λl o=>i.same l o
   new:=λl hl=>by
    have hl:17<=l:=hl
    rw[f l hl,gu,if_neg O,i.low l hl];rfl
   rest:=λ_ _ _=>rfl}
 have u:∀j,cR (tG k F (.own 16 gs.length 1) (k:Int)) j=(cR (tG k F (.own 16 gs.length 1) (k:Int)) j).bD (lK (17+3*gs.length)):=λj=>tf (b 14 zC) (b 15 zC) (by show _=o_ (lK _ 16) _ _;rw[b 16 zC]) j
 refine wpIn_mono (NY (SB:=Ha q k F gs k) (JJ q k F gs.length k (dw _)) u A ⟨rfl,rfl⟩ z n c ρ a w A d i r) λx a1 s J=>?_
 obtain⟨rfl,S,K,l1,r1⟩:=J
 obtain⟨L,_,N⟩:=r1.view l1 (by show c.G<=17;rw[d];decide) (λl hl=>hl)
 obtain⟨P,hx,_,m⟩:=pJ (SB':=Ha q k F gs k) r i N p u rfl ⟨rfl,rfl⟩
 obtain⟨g,v,Q,R⟩:=FF m.heap d C
 refine⟨(λe=>zG),rfl,g,(iU.of hx).trans ⟨λl hl=>v.1 l O,v.fz⟩,⟨m.tmp.1,λj=>?_⟩,Q,m.df⟩
 have y:=m.tmp.2 j
 show VR g (cR (Tr.ofList [(6,.own 16 gs.length 1)]) j) _
 rw[fV]
 simp only[te]
 by_cases h:j=6
 ·rw[if_pos h]
  subst h
  have e:cR (Ha q k F gs k).t 6= .own 16 gs.length 1:=by show cR (tG k F _ _) 6=_;unfold tG;rw[fV];rfl
  rw[e]at y
  exact R _ _ (show k_ _ (.own 16 gs.length 1) (.own 16 gs.length 1)from⟨(b 16 O).symm,rfl,rfl⟩) y
 ·rw[if_neg h]
  simp only[VR]
def Hd:List (Nat×ai):=[(15,.cT 0 (λ_=>[]) (λj=> .ptr (17+3*j) 0 0 0) z),(16,.rows 0 1 oe (.ty 89))]
def N3(q:Query)(k:Nat)(F:Nat->ay):St:={t:=tG k F (.own 16 0 1) 0,nt:=86,H:=hG q 17 Hd,df:=[]}
def N4(q:Query)(k:Nat)(F:Nat -> ay){c:fw}{ρ :Env}{a:Act}{w:World}(g:cA c ρ (N3 q k F) a w)(m:c.G = II.G)(n:∀l,c.E l -> l < 16):∃ρ',iU 16 ρ ρ' /\ cA c ρ' (Ha q k F [] 0) a w := by
  have nd:∀l,l < 15 -> cD Hd l = .dead :=λl hl => by
    simp only[Hd,cD]; rw[if_neg O,if_neg O]
  have b:∀l,17<= l -> (fB q []).get l = .dead :=λl hl => w5 (by simpa using hl)
  have f:l_ 16 (λl => l) (hG q 17 Hd) (fB q []) := by
   refine⟨(by decide :16<= 17),λ_ _ => rfl,λl hl => hl,λl => ?_,λ_ _ _ _ e _ => e,λl hl => b l hl⟩
   rcases w6 0 l with h|rfl|rfl|rfl|⟨i,d,hi,_⟩|h
   · refine .inr (.inl ?_)
     rw[eX nd,if_pos h,lE h]
     exact G9 (λ_ _ => rfl) l
   · refine .inr (.inl ?_)
     rw[eX nd,if_neg O,if_pos A,oQ]
     exact⟨iY _ _,rfl⟩
   · refine .inr (.inl ?_)
     rw[eX nd,if_neg O,if_neg O,w4]
     exact⟨rfl,λ_ h => absurd h (lZ _),λ_ h => absurd h (lZ _),λ_ _ e => zG⟩
   · refine .inr (.inl ?_)
     rw[eX nd,if_neg O,if_neg O,y3]
     exact⟨rfl,rfl,λ_ h => absurd h (lZ _),rfl⟩
   · exact absurd hi (lZ _)
   · exact .inl (b l O)
  refine⟨_,f.ext ρ,⟨g.tmp.1,λj => VR.le _ _ _ ?_ (g.tmp.2 j)⟩,g.heap.view f (by rw[m]; decide) n,g.df⟩
  exact NS A A (show k_ _ (.own 16 0 1) (.own 16 0 1)from⟨rfl,rfl,rfl⟩) j
def Da(q:Query)(k:Nat)(F:Nat->ay)(o:k<=1000000)(p:ct q=true)(r:∀i,i<k->bB (F i)=true):aE PP II false (aD II 40 4001) 16 (N3 q k F) (.one (.x 0 (JM q (aV q F k)))) where
 h s0 f s:=by
  intro ro n e ρ a w g hG b
  cases g rfl
  have d:∀l,e.E l->l<16:=λl hl=>by have:=(b.heap.env l hl).1;omega
  obtain⟨t,u,r1⟩:=b.view s (by rw[hG];decide) d
  obtain⟨j,v,y⟩:=N4 q k F r1 hG d
  have:=NZ (S:=λi=>Ha q k F (aV q F i) i) (E:=.x 0 (JM q (aV q F k))) (n0:=16) (k:=k) (c:=aD II 40 4001) (λi hi n e ρ a w hG d b=>JI q k F i hi o p (r i hi) z n e ρ a w A hG d b) (λn e ρ a w hG d b=>N1 q k F _ n e ρ a w hG d b) k 0 O _ (.inr A) n e j a w hG d y
  refine this.mono λx a w m=>?_
  have m:=aQ.ja (u.trans v) m
  exact aQ.nG b.heap f.symm m
section
open Go.Proofs Go.Sort Go.Shelf Go.RowKit Go.Lib
def cb(a b:Nat->Int):Nat->Nat->Int
 |0,_=>0
 |d+1,k=>if Lib.compareInt (a k) (b k)=0 then cb a b d (k+1)else Lib.compareInt (a k) (b k)
set_option maxHeartbeats 4000000 in
def FG(b1 o1 c b2 o2 d n:Nat)(xs ys:Nat->Int)(w:World)(hn:n<=9)(hc1:∀j,j<n->w.cell? ⟨b1,o1+j,z⟩=d_ (.int .i64 (xs j)))(hc2:∀j,j<n->w.cell? ⟨b2,o2+j,z⟩=d_ (.int .i64 (ys j))):
  Calls Tryz.prog 76 #[.slice (d_ ⟨b1,o1,z⟩) n c,.slice (d_ ⟨b2,o2,z⟩) n d] w λe w'=>e= .returned (.int .i64 (cb xs ys n 0))/\w'=w:=by
 go_enter Tryz.func76,Tryz.ntmps76
 go_wp2
 go_loopg [11] n (λg s wr=> ∃k:Nat,k<=n/\n-k<=g/\s= .int .i64 k/\wr=w/\cb xs ys n 0=cb xs ys (n-k) k)
 case atStart=>exact⟨0,Nat.zero_le _,O,rfl,rfl,rfl⟩
 case round=>
  obtain⟨k,hk,hg,rfl,rfl,heq⟩:=hrel
  by_cases hlt:k<n
  ·have g1:=hc1 k hlt
   have g2:=hc2 k hlt
   have hcon:=AnyG.cmp_Compare_int Tryz.wB (xs k) (ys k) wr
   change Calls Tryz.prog 99 _ _ _ at hcon
   have e1:cb xs ys (n-k) k=if Lib.compareInt (xs k) (ys k)=0 then cb xs ys (n-(k+1)) (k+1)else Lib.compareInt (xs k) (ys k):=by
    rw[show n-k=(n-(k+1))+1 by omega];rfl
   rw[e1]at heq
   have a:Aside (cb xs ys n 0=if Lib.compareInt (xs k) (ys k)=0 then cb xs ys (n-(k+1)) (k+1)else Lib.compareInt (xs k) (ys k)):=heq
   clear heq e1 hc1 hc2
   generalize hxk:xs k=x at g1 hcon
   generalize hyk:ys k=y at g2 hcon
   have b:Aside (xs k=x/\ys k=y):=⟨hxk,hyk⟩
   clear hxk hyk
   generalize hr:Lib.compareInt x y=r at hcon
   have D:Aside (Lib.compareInt x y=r):=hr
   clear hr
   by_cases hz:r=0
   ·subst hz
    go_wp2_with (go_at_call 99;refine hcon.mono ?_;rintro e w' ⟨rfl,rfl⟩)
    go_roundg (n-(k+1))
    case measure=>omega
    case rel=>
     refine⟨k+1,O,O,by go_num,rfl,?_⟩
     have:=a.out
     rw[b.out.1,b.out.2,D.out,if_pos A]at this
     exact this
   ·go_wp2_with (go_at_call 99;refine hcon.mono ?_;rintro e w' ⟨rfl,rfl⟩)
    go_ret
    refine⟨?_,rfl⟩
    have:=a.out
    rw[b.out.1,b.out.2,D.out,if_neg hz]at this
    rw[this];rfl
  ·have:k=n:=by omega
   subst this
   clear hc1 hc2
   go_wp2
   go_ret
   refine⟨?_,rfl⟩
   rw[heq,Nat.sub_self]
   rfl
set_option maxHeartbeats 4000000 in
def uF(a1 a2:Option Addr)(c d:Nat)(w:World):Calls Tryz.prog 76 #[.slice a1 0 c,.slice a2 0 d] w λe w'=>e= .returned (.int .i64 0)/\w'=w:=by
 go_enter Tryz.func76,Tryz.ntmps76
 go_wp2
 go_loopg [11] 0 (λ_ s wr=>s= .int .i64 0/\wr=w)
 case atStart=>exact⟨rfl,rfl⟩
 case round=>
  obtain⟨rfl,rfl⟩:=hrel
  go_wp2
  go_ret
  exact⟨rfl,rfl⟩
set_option maxHeartbeats 4000000 in
def FH(b c d f n g h:Nat)(a1 a2:Option Addr)(r:Int)(W:World)(j:W.cell? ⟨b,c,z⟩=d_ (.slice a1 n g))(k:W.cell? ⟨d,f,z⟩=d_ (.slice a2 n h))
  (i:∀a,(∃q,a=W.drewN q)->Calls Tryz.prog 76 #[.slice a1 n g,.slice a2 n h] a λe w'=>e= .returned (.int .i64 r)/\w'=a):
  Calls Tryz.prog 94 #[.pointer (d_ ⟨b,c,z⟩),.pointer (d_ ⟨d,f,z⟩)] W λe w'=>e= .returned (.int .i64 r)/\∃q,w'=W.drewN q:=by
 go_enter Tryz.func94,Tryz.ntmps94
 go_wp2
 go_quiet (first|(go_at_call 76;refine Calls.quiet_of_same (i _ ⟨_,rfl⟩)))
 go_wp2
 go_ret
 exact⟨rfl,_,rfl⟩
end
end
end Go.Sx
