/- The proof of a statement of the seat, part 35. -/
import Derived.Test.YtoijalagmmgkbaaGreatDoorX34
import Derived.Shelf.RegionOpenPlain
import Derived.WalkKit
import Derived.Deep.LoopGhost
import Derived.Deep.Draws
import Derived.Deep.QuietTactic
import Derived.Lib.Walk
import Derived.Test.YtoijalagmmgkbaaGreatDoorX26
import Derived.Test.YtoijalagmmgkbaaGreatDoorX31
import Derived.Test.YtoijalagmmgkbaaGreatDoorX32
set_option linter.all false
set_option linter.defProp false
set_option maxRecDepth 1000000
namespace Go.Sx
open Go
open List renaming length->B,finRange->z,range->c_,getElem?_eq_none->e_,getD_eq_getElem?_getD->o_,length_mergeSort->r_,ext_getElem?->t_,getElem?_map->u_,length_set->v_,all->y_
open AH renaming get_set_same->a_,bH->s_,eu->x_,blank->E_
open AV renaming str->b_,int->d_,az->g_,bool->w_,le->C_,bD->D_
open Go.IntKind renaming i64->f_
open Nat renaming blt->h_,beq->k_,ble->p_
open Int renaming ofNat->i_
open Option renaming none->j_,some->m_
open Decidable renaming decide->l_
open Classical renaming byContradiction->n_,axiomOfChoice->B_
noncomputable section
def fj(g:Nat)(gs:List bj)(i:Nat):List AV:=[.fc (qL g (aK gs i)) 0]
def C9(g:Nat)(gs:List bj):List (Nat×Zv):=[(16,.rows gs.length 1 (fj g gs) (.ty 89))]
def JM(q:Query)(gs:List bj):St:={t:=Tr.ofList [(6,.own 16 gs.length 1)],nt:=86,H:=hG q 17 (C9 q.ng gs),df:=[]}
def ul{q:Query}{gs:List bj}{c:zS}{ρ:Env}{w:World}(h:Rel c ρ (fB q gs) w):∀j,j<=gs.length->
  ∃ρ' H',Ext ρ ρ'/\Rel c ρ' H' w/\H'.n=17+3*gs.length/\(∀l,l<17->H'.get l=(fB q gs).get l)/\(∀i d,j<=i->i<gs.length->d<3->H'.get (17+3*i+d)=lU (aK gs i) q.ng (17+3*i+d) d)/\
   ∀i,i<j->∀v,VR ρ (.ptr (17+3*i) 0 0 0) v->VR ρ'.bare (.fc (qL q.ng (aK gs i)) 0) v
 |0,_=>⟨ρ,_,Ext.refl ρ,h,rfl,λ_ _=>rfl,λi d _ hi m=>lV hi m,O⟩
 |j+1,G=>by
  obtain⟨o,H1,s,r1,n1,lo,a,old⟩:=ul h j O
  have f:=h.dF 15
  rw[Ps]at f
  obtain⟨_,_,u,_,_,C,_⟩:=f
  have t:VR ρ (.ptr (17+3*j) 0 0 0) (u j):=C j O
  have D:=a j 0 (dw _) O O
  have t1:=a j 1 (dw _) O O
  have t2:=a j 2 (dw _) O O
  obtain⟨fn,E⟩:=NX (H:=H1) (l:=17+3*j) (g:=q.ng) (x:=aK gs j) D t1 t2
  obtain⟨p,y,F,I⟩:=E c o w (u j) r1 (VR.ext s _ _ t)
  refine⟨p,_,s.trans y,F,fn.trans n1,λl hl=>?_,λi d hi r m=>?_,λi hi v k=>?_⟩
  ·rw[s_,if_neg O,s_,if_neg O,s_,if_neg O,lo l hl]
  ·rw[s_,if_neg O,s_,if_neg O,s_,if_neg O,a i d O r m]
  ·by_cases e:i=j
   ·subst e
    obtain⟨b,N,a1,rfl⟩:=oO.1 k
    obtain⟨J,K,a2,L⟩:=oO.1 t
    grind
   ·exact VR.ext y.bare _ _ Y
def FF{q:Query}{gs:List bj}{c:zS}{ρ:Env}{w:World}(H:Rel c ρ (fB q gs) w)(y:c.G=II.G)(U:∀l,c.E l->l<16):
  ∃ρ',iU 17 ρ ρ'/\Rel c ρ' (hG q 17 (C9 q.ng gs)) w/\∀a v,C_ (lK (17+3*gs.length)) a a->VR ρ a v->VR ρ' a v:=by
 obtain⟨m,H1,C,r1,n1,lo,_,old⟩:=ul H gs.length (dw _)
 have nd:∀l,l<15->cD (C9 q.ng gs) l= .dead:=λl hl=>by
  simp only[C9,cD];grind
 have conv:∀i,i<gs.length->∀v,VR m (.ptr (17+3*i) 0 0 0) v->VR m (.fc (qL q.ng (aK gs i)) 0) v:=λi hi v k=>by
  have p:=H.dF 15
  rw[Ps]at p
  obtain⟨_,_,u,_,_,J,_⟩:=p
  have I:=J i hi
  have:=VR.ext (Ext.qU m) _ _ (old i hi _ I)
  obtain⟨b,N,a1,rfl⟩:=oO.1 k
  obtain⟨V,W,a2,X⟩:=oO.1 (VR.ext C _ _ I)
  grind
 have g:∀l,(H1.set 16 (.rows gs.length 1 (fj q.ng gs) (.ty 89))).get l=if l=16 then .rows gs.length 1 (fj q.ng gs) (.ty 89)else H1.get l:=λl=>s_ _ _ _ _
 have o:H1.get 16= .rows gs.length 1 oe (.ty 89):=by rw[lo 16 O,R4]
 have K:Rel c m (H1.set 16 (.rows gs.length 1 (fj q.ng gs) (.ty 89))) w:=by
  refine r1.alike A (λl hl=>?_) (λl=>?_) λl=>?_
  ·rw[g]
   by_cases x:l=16
   ·subst x
    rw[if_pos A]
    rw[o]at hl
    refine⟨λ_ _=>rfl,?_⟩
    rcases hl.2 with⟨h1,D⟩|⟨bb,N,vs,rest,el,fr,h1,D,L,M,P⟩
    ·left
     refine⟨?_,D⟩
     cases Q:gs.length with
     |zero=>rfl
     |succ n=>
      rw[Q]at h1
      have:=congrArg B h1
      rw[bE (n:=n+1) (e:=1) (f:=oe) λ_ _=>rfl]at this
      simp at this
    ·right
     refine⟨bb,N,vs,rest,el,fr,h1,D,L,?_,P⟩
     obtain⟨q1,R⟩:=mT (f:=oe) (λ_=>rfl) M
     refine oI q1 λi hi=>?_
     obtain⟨v,S,T⟩:=R i hi
     exact⟨v,S,aU.aL.2 ⟨conv i hi v (aU.aL.1 T).1,zH⟩⟩
   grind
  ·rw[g]
   by_cases x:l=16
   ·subst x;rw[if_pos A,o];rfl
   ·rw[if_neg x]
  ·grind
 have d:∀l,l<17->lK (17+3*gs.length) l=l:=λl h=>by unfold lK;rw[if_pos h]
 have r:AH.Le 17 (lK (17+3*gs.length)) (H1.set 16 (.rows gs.length 1 (fj q.ng gs) (.ty 89))) (hG q 17 (C9 q.ng gs)):=by
  have s:∀l,(hG q 17 (C9 q.ng gs)).get l≠ .dead->l<17:=λl F=>Nat.lt_of_not_le λhl=>F (by
   rw[eX nd,if_neg O,if_neg O]
   simp only[C9,cD];grind)
  refine⟨dw _,d,λl hl=>?_,λl=>?_,λl Z k k' e _=>?_,λl hl=>?_⟩
  ·show H1.n<=_
   have hl:17<=l:=hl
   unfold lK;grind
  ·rw[eX nd]
   by_cases h:l<14
   ·refine .inr (.inl ?_)
    rw[if_pos h,d l O,g,if_neg O,lo l O,lE h]
    exact G9 (λj hj=>d j O) l
   ·rw[if_neg h]
    by_cases t:l=14
    ·refine .inr (.inl ?_)
     subst t
     rw[if_pos A,d 14 O,g,if_neg O,lo 14 O,oQ]
     exact⟨iY _ _,rfl⟩
    ·rw[if_neg t]
     by_cases o:l=16
     ·refine .inr (.inl ?_)
      subst o
      rw[d 16 O,g,if_pos A]
      exact⟨rfl,rfl,λi hi=>⟨⟨⟨⟨rfl,rfl,λj _=>jw _ _ j⟩,⟨rfl,rfl,λj _=>kS _ _ _ _ j⟩,⟨rfl,rfl,λj _=>jw _ _ j⟩,trivial⟩,rfl⟩,trivial⟩,rfl⟩
     ·refine .inl ?_
      simp only[C9,cD];rw[if_neg o]
  ·grind
  ·exact n_ λF=>by
    have:=s l F
    have hl:17<=l:=hl
    omega
 exact⟨_,(iU.of C).trans (r.ext m),K.view r (by rw[y];decide) (λl hl=>Y),λa v h k=>VR.le _ _ _ h (VR.ext C _ _ k)⟩
def NY{ks f key n0 s y}(h:XZ ks f key n0 s y){SB σ}(ht:∀i,cR SB.t i=(cR s.t i).bD σ)(o:SB.nt=s.nt)(k:s.df=[]/\SB.df=[])
  (ro) (n) (c) (ρ) (a) (w) (q:ro=j_) (hG:c.G=II.G) (E:Sub c.G σ s.H SB.H) (m:cA c ρ SB a w):
  (aD II f key).wpIn (WF ro) n PP (λx a1 C=>x= .exit 0/\∃d l,St.Le n0 d y/\cA (c.iT ρ s.H SB.H σ w) l d a1 C) a w:=by
 obtain⟨e,j,F⟩:=nH iw ks (bm PP II []) 1000 false _ _ _ h
 have u:cA (c.iT ρ s.H SB.H σ w) (ρ.fC σ) s a w:=by
  refine⟨⟨m.tmp.1.trans o,λi=>?_⟩,m.heap.iT E,?_⟩
  ·have:=m.tmp.2 i
   rw[ht]at this
   exact VR.gR _ _ this
  ·have:=m.df
   rw[k.2]at this
   rw[k.1]
   exact this
 have I:(aD II f key).wpIn (WF ro) n PP (e.post (c.iT ρ s.H SB.H σ w) (ρ.fC σ)) a w:=F ro n (c.iT ρ s.H SB.H σ w) (ρ.fC σ) a w (λ_=>q) hG u
 refine wpIn_mono I λx a1 C D=>?_
 cases e with
 |x b d=>
  cases x with
  |exit id=>
   obtain⟨rfl,l,_,J⟩:=D
   obtain⟨rfl,j⟩:=j
   obtain⟨k1,_⟩:=mF.ok (K:=True) j
   grind
  |_=>exact D.elim
 |n d=>exact(j:False).elim
 |g b d=>exact(j:False).elim
 |r d=>exact(j:False).elim
 |p v d=>exact(j:False).elim
def NZ{S:Nat->St}{E:aQ}{n0 k:Nat}{c:Code}
  (g:∀i,i<k->∀n b ρ a w,b.G=II.G->(∀l,b.E l->l<n0)->cA b ρ (S i) a w->c.wpIn (WF j_) n PP (λx a1 f=>x= .normal/\∃ρ',iU n0 ρ ρ'/\cA b ρ' (S (i+1)) a1 f) a w)
  (last:∀n b ρ a w,b.G=II.G->(∀l,b.E l->l<n0)->cA b ρ (S k) a w->c.wpIn (WF j_) n PP (λx a1 f=>x≠ .normal/\E.kx n0 b ρ x a1 f) a w):
  ∀d i,i+d=k->∀t,t= .inLoop c∨t= .code (.loop c)->∀n b ρ a w,b.G=II.G->(∀l,b.E l->l<n0)->cA b ρ (S i) a w->fG (WF j_) n PP t (E.kx n0 b ρ) a w:=by
 intro d
 induction d with
 |zero=>
  intro i hi t ht n b ρ a w hG h j
  have:i=k:=O
  subst this
  refine mB t ht (wpIn_mono (last n b ρ a w hG h j) λx a1 f e=>?_)
  obtain⟨hx,e⟩:=e
  cases x with
  |normal=>exact absurd A hx
  |_=>exact e
 |succ d m=>
  intro i hi t ht n b ρ a w hG h j
  refine mB t ht (wpIn_mono (g i O n b ρ a w hG h j) λx a1 f e=>?_)
  obtain⟨rfl,ρ',o,p⟩:=e
  exact(m (i+1) O (.inLoop c) (.inl A) n b ρ' a1 f hG h p).mono λx a w e=>aQ.ja o e
def N1(q)(k)(F)(gs)(n)(c)(ρ)(a)(w)(d:c.G=II.G)(y:∀l,c.E l->l<16)(p:cA c ρ (Ha q k F gs k) a w):
  (aD II 40 4001).wpIn (WF j_) n PP (λx a1 r=>x≠ .normal/\(aQ.x 0 (JM q gs)).kx 16 c ρ x a1 r) a w:=by
 have b:∀l,l<17->lK (17+3*gs.length) l=l:=λl h=>by unfold lK;rw[if_pos h]
 have f:∀l,17<=l->lK (17+3*gs.length) l=17+3*gs.length+(l-17):=λl h=>by unfold lK;grind
 have nil:∀x,cD [] x= .dead:=λ_=>rfl
 have i:Sub c.G (lK (17+3*gs.length)) (hG q 17 []) (fB q gs):=by
  rw[d]
  refine A4 (H:=fB q gs) zC (λ_ _=>rfl) (λ_ _=>rfl) (λl h=>lE h) (oQ q gs) (λl h=>b l O) (λl h=>?_) (λl h=>f l h) Y Y
  rw[b l h];show l<17+3*gs.length;omega
 have o:Eb (lK (17+3*gs.length)) (hG q 17 []) (hG q 17 []) (fB q gs) (fB q gs):=
  {n:=by rfl
   old:=λl C=>i.same l C
   new:=λl hl=>by
    have hl:17<=l:=hl
    rw[f l hl,gu,if_neg O,i.low l hl];rfl
   rest:=λ_ _ _=>rfl}
 have s:∀j,cR (tG k F (.own 16 gs.length 1) (k:Int)) j=(cR (tG k F (.own 16 gs.length 1) (k:Int)) j).bD (lK (17+3*gs.length)):=λj=>tf (b 14 zC) (b 15 zC) (by rfl) j
 refine wpIn_mono (NY (SB:=Ha q k F gs k) (JJ q k F gs.length k (dw _)) s A ⟨rfl,rfl⟩ j_ n c ρ a w A d i p) λx a1 r D=>?_
 obtain⟨rfl,P,I,l1,r1⟩:=D
 obtain⟨J,_,K⟩:=r1.view l1 (by show c.G<=17;rw[d];decide) (λl hl=>hl)
 obtain⟨L,hx,_,m⟩:=pJ (SB':=Ha q k F gs k) p i K o s rfl ⟨rfl,rfl⟩
 obtain⟨g,u,M,N⟩:=FF m.heap d y
 refine⟨(λe=>zG),rfl,g,(iU.of hx).trans ⟨λl hl=>u.1 l O,u.fz⟩,⟨m.tmp.1,λj=>?_⟩,M,m.df⟩
 have v:=m.tmp.2 j
 show VR g (cR (Tr.ofList [(6,.own 16 gs.length 1)]) j) _
 rw[fV]
 simp only[te]
 by_cases h:j=6
 ·rw[if_pos h]
  subst h
  have e:cR (Ha q k F gs k).t 6= .own 16 gs.length 1:=by show cR (tG k F _ _) 6=_;unfold tG;rw[fV];rfl
  rw[e]at v
  exact N _ _ (show C_ _ (.own 16 gs.length 1) (.own 16 gs.length 1)from⟨(b 16 O).symm,rfl,rfl⟩) v
 ·rw[if_neg h]
  simp only[VR]
def Hd:List (Nat×Zv):=[(15,.cT 0 (λ_=>[]) (λj=> .ptr (17+3*j) 0 0 0) j_),(16,.rows 0 1 oe (.ty 89))]
def N3(q:Query)(k:Nat)(F:Nat->ay):St:={t:=tG k F (.own 16 0 1) 0,nt:=86,H:=hG q 17 Hd,df:=[]}
def N4(q:Query)(k:Nat)(F:Nat -> ay){c:zS}{ρ :Env}{a:Act}{w:World}(f:cA c ρ (N3 q k F) a w)(g:c.G = II.G)(n:∀l,c.E l -> l < 16):∃ρ',iU 16 ρ ρ' /\ cA c ρ' (Ha q k F [] 0) a w := by
  have nd:∀l,l < 15 -> cD Hd l = .dead :=λl hl => by
    simp only[Hd,cD]; grind
  have m:∀l,17<= l -> (fB q []).get l = .dead :=λl hl => P3 (by simpa using hl)
  have b:AH.Le 16 (λl => l) (hG q 17 Hd) (fB q []) := by
   refine⟨(by decide :16<= 17),λ_ _ => rfl,λl hl => hl,λl => ?_,λ_ _ _ _ e _ => e,λl hl => m l hl⟩
   rcases w6 0 l with h|rfl|rfl|rfl|⟨i,d,hi,_⟩|h
   · refine .inr (.inl ?_)
     rw[eX nd,if_pos h,lE h]
     exact G9 (λ_ _ => rfl) l
   · refine .inr (.inl ?_)
     rw[eX nd,if_neg O,if_pos A,oQ]
     exact⟨iY _ _,rfl⟩
   · refine .inr (.inl ?_)
     rw[eX nd,if_neg O,if_neg O,Ps]
     exact⟨rfl,λ_ h => absurd h (lZ _),λ_ h => absurd h (lZ _),λ_ _ e => zG⟩
   · refine .inr (.inl ?_)
     rw[eX nd,if_neg O,if_neg O,R4]
     exact⟨rfl,rfl,O,rfl⟩
   · omega
   · grind
  refine⟨_,b.ext ρ,⟨f.tmp.1,λj => VR.le _ _ _ ?_ (f.tmp.2 j)⟩,f.heap.view b (by rw[g]; decide) n,f.df⟩
  exact NS A A (show C_ _ (.own 16 0 1) (.own 16 0 1)from⟨rfl,rfl,rfl⟩) j
def Da(q)(k)(F)(o:k<=1000000)(p:ct q=true)(r:∀i,i<k->bB (F i)=true):Zu PP II false (aD II 40 4001) 16 (N3 q k F) (.one (.x 0 (JM q (aV q F k)))) where
 h s0 f s:=by
  intro ro n e ρ a w g hG b
  cases g rfl
  have d:∀l,e.E l->l<16:=λl hl=>by have:=(b.heap.env l hl).1;omega
  obtain⟨t,u,r1⟩:=b.view s (by rw[hG];decide) d
  obtain⟨j,v,y⟩:=N4 q k F r1 hG d
  have:=NZ (S:=λi=>Ha q k F (aV q F i) i) (E:=.x 0 (JM q (aV q F k))) (n0:=16) (k:=k) (c:=aD II 40 4001) (λi hi n e ρ a w hG d b=>JI q k F i hi o p (r i hi) j_ n e ρ a w A hG d b) (λn e ρ a w hG d b=>N1 q k F _ n e ρ a w hG d b) k 0 O _ (.inr A) n e j a w hG d y
  refine this.mono λx a w m=>?_
  have m:=aQ.ja (u.trans v) m
  exact aQ.nG b.heap f.symm m
section
open Go.Proofs Go.Sort Go.Shelf Go.RowKit Go.Lib
def Zw(a b:Nat->Int):Nat->Nat->Int
 |0,_=>0
 |d+1,k=>if Lib.compareInt (a k) (b k)=0 then Zw a b d (k+1)else Lib.compareInt (a k) (b k)
set_option maxHeartbeats 4000000 in
def FG(b1 o1 c b2 o2 d n:Nat)(xs ys:Nat->Int)(w:World)(hn:n<=9)(hc1:∀j,j<n->w.cell? ⟨b1,o1+j,j_⟩=m_ (.int f_ (xs j)))(hc2:∀j,j<n->w.cell? ⟨b2,o2+j,j_⟩=m_ (.int f_ (ys j))):
  Calls Tryz.prog 76 #[.slice (m_ ⟨b1,o1,j_⟩) n c,.slice (m_ ⟨b2,o2,j_⟩) n d] w λe w'=>e= .returned (.int f_ (Zw xs ys n 0))/\w'=w:=by
 go_enter Tryz.func76,Tryz.ntmps76
 go_wp2
 go_loopg [11] n (λg s wr=> ∃k:Nat,k<=n/\n-k<=g/\s= .int f_ k/\wr=w/\Zw xs ys n 0=Zw xs ys (n-k) k)
 case atStart=>exact⟨0,Nat.zero_le _,O,rfl,rfl,rfl⟩
 case round=>
  obtain⟨k,hk,hg,rfl,rfl,heq⟩:=hrel
  by_cases hlt:k<n
  ·have g1:=hc1 k hlt
   have g2:=hc2 k hlt
   have hcon:=AnyG.cmp_Compare_int Tryz.wB (xs k) (ys k) wr
   change Calls Tryz.prog 99 _ _ _ at hcon
   have e1:Zw xs ys (n-k) k=if Lib.compareInt (xs k) (ys k)=0 then Zw xs ys (n-(k+1)) (k+1)else Lib.compareInt (xs k) (ys k):=by
    rw[show n-k=(n-(k+1))+1 by omega];rfl
   rw[e1]at heq
   have a:Aside (Zw xs ys n 0=if Lib.compareInt (xs k) (ys k)=0 then Zw xs ys (n-(k+1)) (k+1)else Lib.compareInt (xs k) (ys k)):=heq
   clear heq e1 hc1 hc2
   generalize hxk:xs k=x at g1 hcon
   generalize hyk:ys k=y at g2 hcon
   have b:Aside (xs k=x/\ys k=y):=⟨hxk,hyk⟩
   clear hxk hyk
   generalize hr:Lib.compareInt x y=r at hcon
   have D:Aside (Lib.compareInt x y=r):=hr
   clear hr
   by_cases hz:r=0
   ·subst hz
    go_wp2_with (go_at_call 99;refine hcon.mono ?_;rintro e w' ⟨rfl,rfl⟩)
    go_roundg (n-(k+1))
    case measure=>omega
    case rel=>
     refine⟨k+1,O,O,by go_num,rfl,?_⟩
     have:=a.out
     rw[b.out.1,b.out.2,D.out,if_pos A]at this
     exact this
   ·go_wp2_with (go_at_call 99;refine hcon.mono ?_;rintro e w' ⟨rfl,rfl⟩)
    go_ret
    refine⟨?_,rfl⟩
    have:=a.out
    rw[b.out.1,b.out.2,D.out,if_neg hz]at this
    rw[this];rfl
  ·have:k=n:=by omega
   subst this
   clear hc1 hc2
   go_wp2
   go_ret
   refine⟨?_,rfl⟩
   rw[heq,Nat.sub_self]
   rfl
set_option maxHeartbeats 4000000 in
def uF(a1 a2:Option Addr)(c d:Nat)(w:World):Calls Tryz.prog 76 #[.slice a1 0 c,.slice a2 0 d] w λe w'=>e= .returned (.int f_ 0)/\w'=w:=by
 go_enter Tryz.func76,Tryz.ntmps76
 go_wp2
 go_loopg [11] 0 (λ_ s wr=>s= .int f_ 0/\wr=w)
 case atStart=>exact⟨rfl,rfl⟩
 case round=>
  obtain⟨rfl,rfl⟩:=hrel
  go_wp2
  go_ret
  exact⟨rfl,rfl⟩
set_option maxHeartbeats 4000000 in
def FH(b q1 c d n f g:Nat)(a1 a2:Option Addr)(r:Int)(W:World)(i:W.cell? ⟨b,q1,j_⟩=m_ (.slice a1 n f))(j:W.cell? ⟨c,d,j_⟩=m_ (.slice a2 n g))
  (h:∀a,(∃q,a=W.drewN q)->Calls Tryz.prog 76 #[.slice a1 n f,.slice a2 n g] a λe w'=>e= .returned (.int f_ r)/\w'=a):
  Calls Tryz.prog 94 #[.pointer (m_ ⟨b,q1,j_⟩),.pointer (m_ ⟨c,d,j_⟩)] W λe w'=>e= .returned (.int f_ r)/\∃q,w'=W.drewN q:=by
 go_enter Tryz.func94,Tryz.ntmps94
 go_wp2
 go_quiet (first|(go_at_call 76;refine Calls.quiet_of_same (h _ ⟨_,rfl⟩)))
 go_wp2
 go_ret
 exact⟨rfl,_,rfl⟩
end
section
open Go.Proofs Go.Sort Go.Shelf Go.RowKit Go.Lib
def QY(x y):(Lib.compareInt x y<0)↔x<y:=by
 unfold Lib.compareInt
 omega
def He(x y):(Lib.compareInt x y=0)↔x=y:=by
 unfold Lib.compareInt
 omega
def kT(xs a)(d k):(Zw xs a (d+1) k<0)↔(xs k<a k∨(xs k=a k/\Zw xs a d (k+1)<0)):=by
 show((if Lib.compareInt (xs k) (a k)=0 then Zw xs a d (k+1)else Lib.compareInt (xs k) (a k))<0)↔_
 by_cases h:xs k=a k
 ·rw[if_pos ((He _ _).2 h)]
  omega
 ·rw[if_neg (λe=>h ((He _ _).1 e)),QY]
  omega
def Db(xs):∀d k,¬ Zw xs xs d k<0
 |0,k=>by show¬ (0:Int)<0;omega
 |d+1,k=>by
  rw[kT]
  rintro(e|⟨_,e⟩)
  ·omega
  ·exact Db xs d _ e
def xe(xs a zs):∀d k,Zw xs a d k<0->Zw a zs d k<0->Zw xs zs d k<0
 |0,k=>λh=>by have h:(0:Int)<0:=h;omega
 |d+1,k=>by
  rw[kT,kT,kT]
  rintro(e|⟨e,b⟩) (f|⟨f,c⟩)
  ·left;omega
  ·left;omega
  ·left;omega
  ·exact .inr ⟨O,xe xs a zs d _ b c⟩
def um(xs b zs):∀d k,¬ Zw xs b d k<0->¬ Zw b zs d k<0->¬ Zw xs zs d k<0
 |0,k=>λ_ _=>zI
 |d+1,k=>by
  rw[kT,kT,kT]
  intro f g
  rintro(e|⟨e,c⟩)
  omega
  ·by_cases a:xs k=b k
   ·exact um xs b zs d _ O O c
   omega
def Dc(xs b):∀d k,¬ Zw xs b d k<0->¬ Zw b xs d k<0->∀j,j<d->xs (k+j)=b (k+j)
 |0,k=>O
 |d+1,k=>by
  rw[kT,kT]
  intro c f j g
  have e:xs k=b k:=by
   by_cases a:xs k<b k
   ·omega
   ·omega
  cases j with
  |zero=>exact e
  |succ j=>
   have:=Dc xs b d (k+1) O O j O
   grind
def gw(a:List AV):Nat->Int:=match a with
 |[.fc (.az _ _ f::_) _]=>aM f
 |_=>λ_=>0
def ti(g:Nat)(a:List AV):Bool:=match a with
 |[.fc (.az m 1 f::_) 0]=>k_ m g&&bA g f
 |_=>false
def A7(g:Nat)(x y:Nat->Int):Bool:=(c_ g).all λk=>x k==y k
def pK(g n:Nat)(R:Nat->List AV):Bool:=(c_ n).all λi=>ti g (R i)&&(c_ n).all λj=>k_ i j || !A7 g (gw (R i)) (gw (R j))
def xf(a:List AV):AV:=match a with
 |x::_=>x
 |[]=> .any
def lW(g n:Nat)(R:Nat->List AV):List Nat:=(c_ n).mergeSort λx y=>!decide (Zw (gw (R y)) (gw (R x)) g 0<0)
def lX(g n:Nat)(R:Nat->List AV)(i:Nat):List AV:=[xf (R ((lW g n R).getD i 0))]
def Rel.Uy{c ρ H w l n e f g a}(h:Rel c ρ H w)(hl:H.get l= .rows n e f a)(b:∀i,i<n->f i=g i):Rel c ρ (H.set l (.rows n e g a)) w:=by
 have m:rowsOf n f=rowsOf n g:=lR b
 have k:∀j,j≠l->(H.set l (.rows n e g a)).get j=H.get j:=λj e=>x_ _ _ (λo=>e o.symm)
 refine h.alike A (λj d=>?_) (λj=>?_) (λj=>?_)
 ·by_cases e:j=l
  ·subst e
   rw[a_]
   rw[hl]at d
   exact⟨λi hi=>by rw[<-b i hi];exact d.1 i hi,by have:=d.2;rwa[m]at this⟩
  grind
 ·by_cases e:j=l
  ·subst e;rw[a_,hl];rfl
  ·rw[k j e]
 ·by_cases e:j=l
  ·subst e;rw[a_,hl];simp
  ·rw[k j e]
def Hf{c ρ H W}(a:Rel c ρ H W){b o vs}(h:qR ρ b o vs){j v}(d:vs[j]? =m_ v):W.cell? ⟨b,o+j,j_⟩=m_ v:=by
 obtain⟨_,pre,rest,rfl,e⟩:=h
 obtain⟨el,fr,g⟩:=a.qY _ _ e
 have f:j<vs.length:=(List.getElem?_eq_some_iff.1 d).1
 unfold World.cell?
 grind
def y5{c:zS}{ρ:Env}{H:AH}{W:World}(s:Rel c ρ H W){g:Nat}{a:List AV}(k:ti g a=true){v:Value}(x:aU ρ a [v]):
  ∃p q l n,v= .pointer (m_ ⟨p,q,j_⟩)/\W.cell? ⟨p,q,j_⟩=m_ (.slice l g n)/\(0<g->∃b o,l=m_ ⟨b,o,j_⟩/\∀j,j<g->W.cell? ⟨b,o+j,j_⟩=m_ (.int f_ (gw a j))):=by
 unfold ti at k
 split at k
 ·rename_i m f cs
  simp only[bf]at k
  obtain⟨k1,k2⟩:=k
  cases dE k1
  obtain⟨p,o,us,rfl,y,C⟩:=(aU.aL.1 x).1
  obtain⟨u,D,rfl,E,_⟩:=C
  have F:=Hf s y (j:=0) A
  have hi:=kZ k2
  rcases E with⟨M,rfl⟩|⟨b,G,n,l,I,rfl,_,J⟩
  grind
  ·refine⟨p,o,m_ l,n,rfl,F,λh=>?_⟩
   obtain⟨rfl,K,t⟩:=J h
   refine⟨b,G,rfl,λj r=>?_⟩
   have w:=K.row (λi hi=>(t i hi).1) r
   obtain⟨l1,l2⟩:=t j r
   rw[hi j r]at l2
   obtain⟨d,zs,e,L,_⟩:=l2
   rw[Nat.mul_one]at w
   have:=Hf s (ρ:=ρ) w (j:=0) (v:=d) (by rw[e];rfl)
   rw[Nat.add_zero]at this
   rw[this]
   exact congrArg m_ L
 ·cases k
end
section
open Go.Proofs Go.Sort Go.Shelf Go.RowKit Go.Lib
def rY{g n R}(h:pK g n R=true){i}(hi:i<n):ti g (R i)=true/\∀j,j<n->i≠j->A7 g (gw (R i)) (gw (R j))=false:=by
 have:=List.all_eq_true.1 h i (List.mem_range.2 hi)
 simp only[bf]at this
 refine⟨this.1,λj a b=>?_⟩
 have k:=List.all_eq_true.1 this.2 j (List.mem_range.2 a)
 simp_all
def JN{g a}(h:ti g a=true):a=[xf a]:=by
 unfold ti at h
 split at h
 ·rfl
 ·cases h
def FI{l:Nat}{H:AH}:af PP II 93 [.own l 0 1,.fn 94 [] []] H (.ret (.bK []) H):=by
 intro c ρ w vs hG a d
 obtain⟨u,us,rfl,f,g,h,rfl,i,rfl⟩:=a
 have hx:∃p cap,u= .slice p 0 cap:=by
  rcases f with⟨_,rfl⟩|⟨b,N,c,_,rfl,_⟩
  ·exact⟨_,_,rfl⟩
  ·exact⟨_,_,rfl⟩
 obtain⟨p,cap,rfl⟩:=hx
 have L:=Tryz.yR
 have:=AnyF.slices_SortFunc_none (P:=Tryz.prog) (ρ:=Tryz.qf) {L with} p cap g w
 change Calls Tryz.prog 93 _ _ _ at this
 refine .inl ⟨enters_of Tryz.func93 U A _ w,this.mono ?_⟩
 rintro e w' ⟨rfl,rfl⟩
 exact⟨ρ,Ext.refl ρ,d,[],rfl,rfl⟩
def Dd(g n)(R):(lW g n R).length=n:=by unfold lW;simp
def u4(g n)(R){i}(hi:i<n):(lW g n R).getD i 0<n:=by
 have hl:=Dd g n R
 rw[o_,mo O]
 have:(lW g n R)[i]'O∈lW g n R:=List.getElem_mem _
 unfold lW at this
 rw[List.mem_mergeSort]at this
 exact List.mem_range.1 this
set_option maxHeartbeats 1000000 in
def FJ{g n l:Nat}{R:Nat->List AV}{H:AH}(hl:H.get l= .rows n 1 R (.ty 89))(h0:0<n)(hg:g<=9)(hn:n<4611686018427387904)(J:pK g n R=true):
  af PP II 93 [.own l n 1,.fn 94 [] []] H (.ret (.bK []) (H.set l (.rows n 1 (lX g n R) (.ty 89)))):=by
 intro c ρ w vs hG hv hr
 obtain⟨u,us,rfl,K,u2,ai,rfl,e2,rfl⟩:=hv
 obtain⟨z1,z2,rfl,M,P⟩:=e2
 cases M
 cases P
 rcases K with⟨e,_⟩|⟨b,N,cap,hb,rfl,aj,ap⟩
 ·omega
 have t:∀i,i<n->R i=[xf (R i)]:=λi hi=>JN (rY J hi).1
 have Q:Rel c ρ (H.set l (.rows n 1 (λi=>[xf (R i)]) (.ty 89))) w:=hr.Uy hl t
 obtain⟨S,T,g1,g2,g3,g4⟩:=Q.GZ (l:=l) (n:=n) (R:=λi=>[xf (R i)]) (a_ _ _ _) hb λ_=>rfl
 haveI:Inhabited (Fin n):=⟨⟨0,h0⟩⟩
 have hx:∀x:Fin n,∃v,T[x.1]? =m_ v:=λx=>⟨T[x.1]'O,mo _⟩
 obtain⟨enc,o⟩:=B_ hx
 have C:∀x,(enc x).oneCell'=true:=λx=>g3 _ (List.mem_of_getElem? (o x))
 have j:∀x:Fin n,aU ρ [xf (R x)] [enc x]:=λx=>by
  obtain⟨v,k1,k2⟩:=g2 x x.2
  have:=o x
  rw[k1]at this
  cases this
  exact k2
 have hd:((z n).toArray).toList.map enc=T:=by
  apply t_
  intro i
  by_cases hi:i<n
  ·have:=o ⟨i,hi⟩
   rw[this]
   simp[hi]
  ·rw[e_ zJ,e_ O]
 obtain⟨hH,p⟩:=g4 enc (z n).toArray hd
 have D:(z n).toArray.size=n:=zA
 have hO:SWO (ltOf λx y:Fin n=>Zw (gw (R x)) (gw (R y)) g 0):=
  {irrefl:=λx=>nZ (Db _ g 0)
   trans:=λx y d F G=>bW (xe _ _ _ g 0 (pT F) (pT G))
   ntrans:=λx y d F G=>nZ (um _ _ _ g 0 (of_decide_eq_false F) (of_decide_eq_false G))}
 have hT:∀x y:Fin n,(ltOf λx y:Fin n=>Zw (gw (R x)) (gw (R y)) g 0) x y=false->(ltOf λx y:Fin n=>Zw (gw (R x)) (gw (R y)) g 0) y x=false->x=y:=λx y F G=>n_ λV=>by
  have h3:=(rY J x.2).2 y y.2 (λe=>V (Fin.ext e))
  have W:=Dc _ _ g 0 (of_decide_eq_false F) (of_decide_eq_false G)
  have h4:A7 g (gw (R x)) (gw (R y))=true:=List.all_eq_true.2 λk hk=>by
   have:=W k (List.mem_range.1 hk)
   rw[Nat.zero_add]at this
   rw[this]
   exact beq_self_eq_true _
  rw[h3]at h4
  cases h4
 have I:CmpReads Tryz.prog 94 #[] enc (λx y:Fin n=>Zw (gw (R x)) (gw (R y)) g 0) b 0 (z n).toArray.size w:=λm os X Y x y=>by
  rw[D]at Y
  have hW:=p X (λi=>[xf (R (if h:i<n then(X[i]'O).1 else 0))]) m os Y C (λ_=>rfl) λi hi=>⟨enc (X[i]'O),by simp[Y,hi],by simp only[hi,dif_pos];exact j _⟩
  obtain⟨p1,q1,a1,Z,k1,k2,k3⟩:=y5 hW (rY J x.2).1 (v:=enc x) (by rw[t x x.2];exact j x)
  obtain⟨p2,q2,a2,c2,m1,m2,m3⟩:=y5 hW (rY J y.2).1 (v:=enc y) (by rw[t y y.2];exact j y)
  rw[k1,m1]
  refine FH p1 q1 p2 q2 g Z c2 a1 a2 _ _ k2 m2 λW' hq=>?_
  obtain⟨q,rfl⟩:=hq
  by_cases ab:g=0
  ·subst ab
   exact uF a1 a2 Z c2 _
  ·obtain⟨b1,o1,rfl,r1⟩:=k3 O
   obtain⟨b2,o2,rfl,r2⟩:=m3 O
   exact FG b1 o1 Z b2 o2 c2 g _ _ _ hg r1 r2
 have eg:∀args w,(callFunc 94 args).run Tryz.prog w= .ok (.enter 94 args) w:=enters_of Tryz.func94 U A
 have:=Any.slices_SortFunc_total Tryz.yR enc C (λx y:Fin n=>Zw (gw (R x)) (gw (R y)) g 0) hO 94 #[] b 0 cap (z n).toArray w eg I.lays hH S (by rw[D];exact hn) hT
 change Calls Tryz.prog 93 _ _ _ at this
 rw[D]at this
 refine .inl ⟨enters_of Tryz.func93 U A _ w,this.mono ?_⟩
 rintro e w' ⟨rfl,k,os,rfl⟩
 have E:((z n).mergeSort λx y=>!(ltOf λx y:Fin n=>Zw (gw (R x)) (gw (R y)) g 0) y x).map Fin.val=lW g n R:=by
  refine(List.map_mergeSort (f:=Fin.val) (r:=λx y:Fin n=>!(ltOf λx y:Fin n=>Zw (gw (R x)) (gw (R y)) g 0) y x) (s:=λx y=>!decide (Zw (gw (R y)) (gw (R x)) g 0<0)) (l:=z n) (λa _ b _=>rfl)).trans ?_
  unfold lW
  congr 1
  apply t_
  intro i
  by_cases hi:i<n
  ·simp[hi]
  ·rw[e_ zJ,e_ zJ]
 have ad:=p ((z n).mergeSort λx y=>!(ltOf λx y:Fin n=>Zw (gw (R x)) (gw (R y)) g 0) y x).toArray (lX g n R) k os (by simp[r_]) C (λ_=>rfl) λi hi=>by
  have ag:((z n).mergeSort λx y=>!(ltOf λx y:Fin n=>Zw (gw (R x)) (gw (R y)) g 0) y x).length=n:=by rw[r_];simp
  have K:=mo (l:=(z n).mergeSort λx y=>!(ltOf λx y:Fin n=>Zw (gw (R x)) (gw (R y)) g 0) y x) (i:=i) O
  refine⟨enc (((z n).mergeSort λx y=>!(ltOf λx y:Fin n=>Zw (gw (R x)) (gw (R y)) g 0) y x)[i]'O),?_,?_⟩
  ·rw[u_]
   show Option.map enc (List.toArray _).toList[i]? =_
   rw[List.toList_toArray,K];rfl
  ·unfold lX
   have:(lW g n R).getD i 0=(((z n).mergeSort λx y=>!(ltOf λx y:Fin n=>Zw (gw (R x)) (gw (R y)) g 0) y x)[i]'O).1:=by
    rw[<-E,o_,u_,K];rfl
   rw[this]
   exact j _
 refine⟨ρ,Ext.refl ρ,ad.congr A λi=>?_,[],rfl,rfl⟩
 by_cases L:i=l
 ·subst L;rw[a_,a_]
 ·rw[x_ _ _ (λd=>L d.symm),x_ _ _ (λd=>L d.symm),x_ _ _ (λd=>L d.symm)]
def N5(g:Nat):aC PP II where
 f:=93
 spec X args H a _:=match args with
  |[.own l n 1,.fn 94 [] []]=>match H.get l with
   | .rows m 1 R (.ty 89)=>X.ak (k_ n m&&p_ g 9&&h_ n 4611686018427387904&&pK g n R) (a (.bK []) (H.set l (.rows n 1 (lX g n R) (.ty 89))))
   |_=>X.fail
  |_=>X.fail
 ok X sem hX args H a kp h:=by
  split at h
  ·rename_i l n
   split at h
   ·rename_i m R hl
    obtain⟨b,d⟩:=hX.ak _ _ h
    simp only[bf,Nat.blt_eq]at b
    obtain⟨⟨⟨a1,a2⟩,e⟩,a4⟩:=b
    cases dE a1
    refine⟨.ret _ _,d,?_⟩
    by_cases i:n=0
    ·subst i
     intro c ρ w vs hG j k
     exact FI c ρ w vs hG j (k.Nv hl)
    ·exact FJ hl O ZD e a4
   ·exact zR
  ·exact zR
end
def JO(q)(k)(F)(gs)(Q):(kq [N5 q.ng] [(4001,16,N3 q k F,.one (.x 0 (JM q gs)))] 40 [.agg (aY q),cm k F] Q)=(Zu PP II false (aD II 40 4001) 16 (N3 q k F) (GE.one (aQ.x 0 (JM q gs)))/\zyN q.nw (zyR q.nw (au q.C) (zyN q.ng (zyR q.ng (aR q.G) (zyI q.a (zyI q.fl (zyB q.nu (zyB q.de (zyI q.top (zyB [48] (zyB [49] (zyR 5 aA (zyN k ((an k (λi=>aF (F i)) λi=>aF (F i))/\zyI (i_ k) (aa (k_ (B gs) (B gs)&&p_ q.ng 9&&h_ (B gs) 4611686018427387904&&pK q.ng (B gs) (fj q.ng gs)) (aa ((y_ (c_ (B gs)) λi=>bt.free (lX q.ng (B gs) (fj q.ng gs) i))&&l_ (B gs<=B gs)) (Q (g_ (B gs) 1 (lX q.ng (B gs) (fj q.ng gs)))))))))))))))))))):=U
structure xg (b:Query) (gs:List bj):Prop where
 key:∀a,a<gs.length->(aK gs a).key=[bif h_ 0 b.ng then(aK gs a).W 0 else 0,bif h_ 1 b.ng then(aK gs a).W 1 else 0,bif h_ 2 b.ng then(aK gs a).W 2 else 0]
 apart:∀i a,i<gs.length->a<gs.length->i≠a->(aK gs i).key≠(aK gs a).key
def tj(q)(F):∀i,xg q (aV q F i)
 |0=>⟨λj c=>absurd c ZE,λi j hi=>absurd hi ZE⟩
 |i+1=>by
  obtain⟨f,g⟩:=tj q F i
  show xg q (km q (aV q F i) i (F i))
  unfold km
  cases gk q (F i)with
  |false=>exact⟨f,g⟩
  |true=>
   simp only[cond_true]
   split
   ·rename_i j c
    obtain⟨c,_⟩:=lF c
    refine⟨λl hl=>?_,λa b ha d e=>?_⟩
    ·rw[v_]at hl
     rw[gg c]
     grind
    ·rw[v_]at ha d
     rw[gg c,gg c]
     grind
   ·rename_i k
    have no:=xc k
    refine⟨λl hl=>?_,λa b ha d e=>?_⟩
    ·rw[gh]
     by_cases h:l=(aV q F i).length
     ·rw[if_pos h];rfl
     grind
    ·simp only[List.length_append,List.length_cons,List.length_nil]at ha d
     rw[gh,gh]
     grind
def kc(n)(W):bA n (ae W)=true:=List.all_eq_true.2 λ_ _=>rfl
def N6{q gs}(h:xg q gs)(f:q.ng<=3):pK q.ng gs.length (fj q.ng gs)=true:=by
 refine List.all_eq_true.2 λi hi=>?_
 have hi:=List.mem_range.1 hi
 rw[bf]
 refine⟨?_,List.all_eq_true.2 λj c=>?_⟩
 ·show(k_ q.ng q.ng&&bA q.ng (ae _))=true
  rw[ni,kc];rfl
 ·have c:=List.mem_range.1 c
  by_cases e:i=j
  simp_all
  ·rw[qK e,Bool.false_or,Bool.not_eq_true']
   cases he:A7 q.ng (gw (fj q.ng gs i)) (gw (fj q.ng gs j))with
   |false=>rfl
   |true=>
    refine absurd ?_ (h.apart i j hi c e)
    have a:∀k,k<q.ng->(aK gs i).W k=(aK gs j).W k:=λk d=>by
     have:=List.all_eq_true.1 he k (List.mem_range.2 d)
     have:=eq_of_beq this
     exact this
    rw[h.key i hi,h.key j c]
    have b:∀k,(bif h_ k q.ng then(aK gs i).W k else 0)=bif h_ k q.ng then(aK gs j).W k else 0:=λk=>by
     cases g:h_ k q.ng with
     |true=>simp_all
     |false=>rfl
    rw[b 0,b 1,b 2]
def De(q:Query)(gs:List bj):AV:=.az gs.length 1 (lX q.ng gs.length (fj q.ng gs))
def FK(g n)(gs):((c_ n).all λi=>bt.free (lX g n (fj g gs) i))=true:=List.all_eq_true.2 λi _=>rfl
def qM(g n)(gs):an n (lX g n (fj g gs)) (lX g n (fj g gs)):=λi _ σ=>⟨⟨⟨⟨rfl,rfl,λj _=>jw _ _ j⟩,⟨rfl,rfl,λj _=>kS _ _ _ _ j⟩,⟨rfl,rfl,λj _=>jw _ _ j⟩,trivial⟩,rfl⟩,trivial⟩
def JP{q k F}(b:ct q=true)(d:k<=1000000)(e:∀i,i<k->bB (F i)=true):af PP II 40 [.agg (aY q),cm k F] HR (.ret (De q (aV q F k)) HR):=by
 refine qh (ks:=[N5 q.ng]) (T:=[(4001,16,N3 q k F,.one (.x 0 (JM q (aV q F k))))]) ?_
 rw[JO]
 have a:=Xs b
 have c:=(lG q F k).len
 have fl:=gU k F
 have a1:(k_ (aV q F k).length (aV q F k).length&&p_ q.ng 9&&h_ (aV q F k).length 4611686018427387904&&pK q.ng (aV q F k).length (fj q.ng (aV q F k)))=true:=by
  rw[ni,kV O,eV O,N6 (tj q F k) a];rfl
 have a2:=FK q.ng (aV q F k).length (aV q F k)
 refine⟨Da q k F d b e,?_⟩
 repeat' (first|with_reducible refine Zf A ?_|with_reducible refine YG A ?_|with_reducible refine Zi A ?_|with_reducible refine And.intro ?_ ?_|with_reducible exact bC _ _|with_reducible exact bO _ _|with_reducible exact aZ|with_reducible exact fl|with_reducible exact trivial|with_reducible refine cC _ _ a1 ?_|exact cC _ _ (by rw[a2];simp) (λσ=>⟨rfl,rfl,λi hi=>qM _ _ _ i hi σ⟩))
def ie(k:Nat)(f:Nat->List AV):Bool:=fh k f&&(c_ k).all λi=>bB (bP f i)
def rZ(q:Query):aC PP II:=aC.s9 40
 (λX args a=>match args with
  |[.agg cs,.az k 10 f]=>X.ak (qT q cs&&ct q&&p_ k 1000000&&ie k f) (a (De q (aV q (bP f) k)))
  |_=>X.fail)
 λX sem hX args a h=>by
  split at h
  ·rename_i cs k f
   obtain⟨b,c⟩:=hX.ak _ _ h
   simp only[bf]at b
   obtain⟨⟨⟨a1,a2⟩,d⟩,a4⟩:=b
   obtain⟨l1,l2⟩:=mi a1
   unfold ie at a4
   simp only[bf]at a4
   refine⟨_,c,λ_=>rfl,λσ=>?_,af.dA (JP a2 ZD ZD) l1 (fq a4.1)⟩
   show [D_ σ (.agg _),_]=_
   rw[l2];rfl
  ·exact zR
def r6(q:Query):aC PP II:=aC.s9 41
 (λX args a=>match args with
  |[.agg cs,.az k 3 r]=>X.ak (qT q cs&&ct q&&lD k r&&bX k (ka r)&&bX k (iF r)) (a (CW q k (ka r) (iF r) (iG r)))
  |_=>X.fail)
 λX sem hX args a h=>by
  split at h
  ·obtain⟨b,c⟩:=hX.ak _ _ h
   simp only[bf]at b
   obtain⟨⟨⟨⟨a1,a2⟩,d⟩,a4⟩,e⟩:=b
   obtain⟨r1,f,g⟩:=mY a2
   obtain⟨l1,l2⟩:=mi a1
   refine⟨_,c,λ_=>rfl,λσ=>?_,af.dA (Jt r1 f g a4 e) l1 (oL d)⟩
   show [D_ σ (.agg _),_]=_
   rw[l2];rfl
  ·exact zR
def j4.two{x a a' H H'}(h:j4 a H a' H')(hx:x.free=true):sM [x,a] H [x,a'] H':=⟨h.1,λc ρ w vs f i=>by
 obtain⟨u,us,rfl,j,b,l,rfl,m,rfl⟩:=i
 obtain⟨ρ',d,o,q⟩:=h.2 c ρ w b f m
 exact⟨ρ',d,o,u,[b],rfl,VR.ext d.bare _ _ (VR.free _ _ hx j),b,[],rfl,q,rfl⟩⟩
def Hg:aC PP II where
 f:=42
 spec X args H a kp:=match args with
  |[.agg cs,.own l m 9]=>match H.get l with
   | .rows n 9 r (.ty 44)=>X.ak (k_ n m&&bt.free cs&&(c_ n).all λi=>bt.free (r i)) (WZ.spec X [.agg cs,.az m 9 r] (H.set l (.rows n 9 r .ro)) a kp)
   |_=>X.fail
  |_=>X.fail
 ok X sem hX args H a kp h:=by
  split at h
  ·rename_i cs l m
   split at h
   ·rename_i n r hl
    obtain⟨b,c⟩:=hX.ak _ _ h
    simp only[bf]at b
    obtain⟨⟨a1,a2⟩,g⟩:=b
    cases dE a1
    obtain⟨o,k1,k2⟩:=WZ.ok X sem hX _ _ _ _ c
    refine⟨o,k1,af.nI (j4.two ?_ zI) k2⟩
    have d:l6 H l=m_ (H.set l (.rows m 9 r .ro)):=by unfold l6;rw[hl]
    have:qC RI.jY (0+1) (.own l m 9) H (λa' H'=>a'= .az m 9 r/\H'=H.set l (.rows m 9 r .ro)):=by
     rw[A6 RI.jY _ d (a_ _ _ _)]
     exact Ze Y ⟨rfl,rfl⟩
    obtain⟨a',H',⟨rfl,rfl⟩,e⟩:=lm (sem:=id) RI.dJ _ _ H _ this
    exact e
   ·exact zR
  ·exact zR
def N7(q)(Q):(kb [lQ] [] 38 [.agg (aY q)] Q)=(aa (aI 3 q.nw (au q.C)&&aI 1 q.ng (aR q.G)) (aa (eU {nw:=q.nw,C:=bG (au q.C),ng:=q.ng,G:=λj=>q.G j,a:=q.a,fl:=q.fl,nu:=q.nu,de:=q.de,top:=q.top}) (ah (l_ (q.fl=0)) (Q (w_ true)) (ah (l_ (q.fl=7)) (Q (w_ true)) (ah (l_ (q.fl=8)) (Q (w_ true)) (Q (w_ true))))))):=U
def N8{q}(h:ct q=true):af PP II 38 [.agg (aY q)] (E_ 12) (.ret (.bool true) (E_ 12)):=by
 obtain⟨a,b,c⟩:=mY h
 refine bY (ks:=[lQ]) (T:=[]) (λ_=>rfl) ?_
 rw[N7]
 refine cC _ _ (by rw[a,b];rfl) (cC _ _ zI ?_)
 exact Zh (λ_=>rfl) λ_=>Zh (λ_=>rfl) λ_=>Zh (λ_=>rfl) λ_=>rfl
def u5(q:Query):aC PP II:=aC.pure 38
 (λX args b=>match args with
  |[.agg cs]=>X.ak (qT q cs&&ct q) (b (.bool true))
  |_=>X.fail)
 λX sem hX args b h=>by
  split at h
  ·obtain⟨a,c⟩:=hX.ak _ _ h
   rw[bf]at a
   exact⟨_,c,λ_=>rfl,λσ=>by show [D_ σ (.agg _)]=_;rw[(mi a.1).2],(N8 a.2).dq ⟨(mi a.1).1,trivial⟩⟩
  ·exact zR
def qN(g:Nat)(X:Nat->bj)(i:Nat):List AV:=[.fc (qL g (X i)) 0]
def og(q:Query)(gs:List bj)(i:Nat):bj:=aK gs ((lW q.ng gs.length (fj q.ng gs)).getD i 0)
def dK(X:Nat->bj)(i k:Nat):Int:=(X i).W k
def jC(q:Query)(X:Nat->bj)(i k:Nat):List UInt8:=match k with
 |0=>(eO q (X i).m (X i).L (X i).C).1
 |1=>(eO q (X i).m (X i).L (X i).C).2
 |2=>(dQ q (X i).m (X i).G (X i).C).1
 |_=>(dQ q (X i).m (X i).G (X i).C).2
def YI(q:Query)(K:Nat->Nat->Int)(S:Nat->Nat->List UInt8)(no:Nat):AH:=hQ 16 [(14,.cells (aY q) (.ty 32)),(15,.rows no 9 (aX q.ng K S) (.ty 44))]
def QZ(q:Query)(n:Nat)(X:Nat->bj)(K:Nat->Nat->Int)(S:Nat->Nat->List UInt8)(N:Int->Nat)(i:Int):St:={t:=Tr.ofList [(2,.ptr 14 0 0 0),(6,.own 15 (N i) 9),(21,.az n 1 (qN q.ng X)),(22,.int f_ (i_ n)),(23,.int f_ i)],nt:=52,H:=YI q K S (N i),df:=[]}
def Q0(q:Query)(n:Nat)(K:Nat->Nat->Int)(S:Nat->Nat->List UInt8):GE:=.one (.x 0 {t:=Tr.ofList [(2,.ptr 14 0 0 0),(6,.own 15 n 9)],nt:=52,H:=YI q K S n,df:=[]})
def Df(q)(n)(X)(K)(S)(N)(i)(Q):(kr [r6 q] [] 13 5001 15 (QZ q n X K S N) (λ_=>Q0 q n K S) (λi=>i+1) Q i)=(ah (l_ (i<i_ n)) (aa (l_ (0<=i)&&l_ (i<i_ n)) (aa (qT q [g_ q.nw 3 (au q.C),g_ q.ng 1 (aR q.G),d_ f_ q.a,d_ f_ q.fl,b_ q.nu,b_ q.de,d_ f_ q.top]&&ct q&&lD (bj.m (X i.toNat)) (bi (bj.L (X i.toNat)) (bj.G (X i.toNat)) (bj.C (X i.toNat)))&&bX (bj.m (X i.toNat)) (ka (bi (bj.L (X i.toNat)) (bj.G (X i.toNat)) (bj.C (X i.toNat))))&&bX (bj.m (X i.toNat)) (iF (bi (bj.L (X i.toNat)) (bj.G (X i.toNat)) (bj.C (X i.toNat))))) (aa (l_ (N i<=N i)&&true&&true&&l_ ((N i+1)*152<=140737488355328)&&true) (aa (aN f_ (i+1)) (ax (N i+1) (N (i+1)) (an (N i+1) (λb=>bif h_ b (N i)then aX q.ng K S b else List.take 9 (List.drop (0+(b-N i)*9) [g_ q.ng 1 (ae (bj.W (X i.toNat))),b_ (Prod.fst (eO q (bj.m (X i.toNat)) (ka (bi (bj.L (X i.toNat)) (bj.G (X i.toNat)) (bj.C (X i.toNat)))) (iG (bi (bj.L (X i.toNat)) (bj.G (X i.toNat)) (bj.C (X i.toNat)))))),b_ (Prod.snd (eO q (bj.m (X i.toNat)) (ka (bi (bj.L (X i.toNat)) (bj.G (X i.toNat)) (bj.C (X i.toNat)))) (iG (bi (bj.L (X i.toNat)) (bj.G (X i.toNat)) (bj.C (X i.toNat)))))),b_ (Prod.fst (dQ q (bj.m (X i.toNat)) (iF (bi (bj.L (X i.toNat)) (bj.G (X i.toNat)) (bj.C (X i.toNat)))) (iG (bi (bj.L (X i.toNat)) (bj.G (X i.toNat)) (bj.C (X i.toNat)))))),b_ (Prod.snd (dQ q (bj.m (X i.toNat)) (iF (bi (bj.L (X i.toNat)) (bj.G (X i.toNat)) (bj.C (X i.toNat)))) (iG (bi (bj.L (X i.toNat)) (bj.G (X i.toNat)) (bj.C (X i.toNat)))))),b_ [48],b_ [49],b_ [48],b_ [49]])) (aX q.ng K S)/\zyN q.nw (zyR q.nw (au q.C) (zyN q.ng (zyR q.ng (aR q.G) (zyI q.a (zyI q.fl (zyB q.nu (zyB q.de (zyI q.top (zyB [48] (zyB [49] (zyR 5 aA (zyI (i+1) (zyN n ((an n (λi=>[AV.fc [g_ q.ng 1 (ae (X i).W),g_ (X i).m 3 (bi (X i).L (X i).G (X i).C),g_ (X i).m 1 (ae (X i).T)] 0]) λi=>[AV.fc [g_ q.ng 1 (ae (X i).W),g_ (X i).m 3 (bi (X i).L (X i).G (X i).C),g_ (X i).m 1 (ae (X i).T)] 0])/\ax (N i+1) (N (i+1)) (zyI (i_ n) Q))))))))))))))))))))) (ax (N i) n (zyR (N i) (aX q.ng K S) (zyN q.nw (zyR q.nw (au q.C) (zyN q.ng (zyR q.ng (aR q.G) (zyI q.a (zyI q.fl (zyB q.nu (zyB q.de (zyI q.top (zyB [48] (zyB [49] (zyR 5 aA (ax (N i) n True)))))))))))))))):=U
def Uz(q)(k)(F)(n)(X)(K)(S)(N)(Q):(kq [u5 q,uT,rZ q,Hg] [(5001,15,QZ q n X K S N 0,Q0 q n K S)] 13 [.agg (aY q),cm k F] Q)=(aa (qT q [g_ q.nw 3 (au q.C),g_ q.ng 1 (aR q.G),d_ f_ q.a,d_ f_ q.fl,b_ q.nu,b_ q.de,d_ f_ q.top]&&ct q) (aa (l_ (k<=1000000)&&fh k λi=>aF (F i)) (ah (!cX k (bP λi=>aF (F i))) (Q (AV.bK [AV.aw,d_ f_ 200])) (aa (qT q [g_ q.nw 3 (au q.C),g_ q.ng 1 (aR q.G),d_ f_ q.a,d_ f_ q.fl,b_ q.nu,b_ q.de,d_ f_ q.top]&&ct q&&p_ k 1000000&&ie k λi=>aF (F i)) (Zu PP II false (aD II 13 5001) 15 (QZ q n X K S N 0) (Q0 q n K S)/\ax (N 0) 0 (zyN q.nw (zyR q.nw (au q.C) (zyN q.ng (zyR q.ng (aR q.G) (zyI q.a (zyI q.fl (zyB q.nu (zyB q.de (zyI q.top (zyB [48] (zyB [49] (zyR 5 aA (ax (B (aV q (bP λi=>aF (F i)) k)) n (an (B (aV q (bP λi=>aF (F i)) k)) (lX q.ng (B (aV q (bP λi=>aF (F i)) k)) (fj q.ng (aV q (bP λi=>aF (F i)) k))) (qN q.ng X)/\ax (N 0) 0 (aH (i_ (B (aV q (bP λi=>aF (F i)) k))) (i_ n) (aa (k_ n n&&bt.free [g_ q.nw 3 (au q.C),g_ q.ng 1 (aR q.G),d_ f_ q.a,d_ f_ q.fl,b_ q.nu,b_ q.de,d_ f_ q.top]&&y_ (c_ n) λi=>bt.free (aX q.ng K S i)) (aa (gn [g_ q.nw 3 (au q.C),g_ q.ng 1 (aR q.G),d_ f_ q.a,d_ f_ q.fl,b_ q.nu,b_ q.de,d_ f_ q.top]&&wT q.ng n (aX q.ng K S)&&Ft n (nV (aX q.ng K S))&&p_ n 1000000) (Q (AV.bK [g_ (ju {nw:=q.nw,C:=bG (au q.C),ng:=q.ng,G:=λj=>q.G j,a:=q.a,fl:=q.fl,nu:=q.nu,de:=q.de,top:=q.top} n (nV (aX q.ng K S))) 9 (aX q.ng (λj=>CZ (aX q.ng K S) (cS {nw:=q.nw,C:=bG (au q.C),ng:=q.ng,G:=λj=>q.G j,a:=q.a,fl:=q.fl,nu:=q.nu,de:=q.de,top:=q.top} n (nV (aX q.ng K S)) j)) λj=>nV (aX q.ng K S) (cS {nw:=q.nw,C:=bG (au q.C),ng:=q.ng,G:=λj=>q.G j,a:=q.a,fl:=q.fl,nu:=q.nu,de:=q.de,top:=q.top} n (nV (aX q.ng K S)) j)),d_ f_ 0])))))))))))))))))))))))):=U
end
end Go.Sx
