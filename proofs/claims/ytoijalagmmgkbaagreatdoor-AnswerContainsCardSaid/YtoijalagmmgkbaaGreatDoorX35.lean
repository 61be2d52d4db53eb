/- The proof of a statement of the seat, part 35. -/
import Derived.Test.YtoijalagmmgkbaaGreatDoorX34
import Derived.Shelf.RegionOpenPlain
import Derived.WalkKit
import Derived.Deep.LoopGhost
import Derived.Deep.Draws
import Derived.Deep.QuietTactic
import Derived.Lib.Walk
import Derived.Test.YtoijalagmmgkbaaGreatDoorX26
import Derived.Test.YtoijalagmmgkbaaGreatDoorX31
import Derived.Test.YtoijalagmmgkbaaGreatDoorX32
set_option linter.all false
set_option linter.defProp false
set_option maxRecDepth 1000000
namespace Go.Sx
open Go
open List renaming length->B,finRange->z,range->c_,getElem?_eq_none->e_,length_mergeSort->j_,getD_eq_getElem?_getD->p_,ext_getElem?->t_,getElem?_map->u_,length_set->v_,all->z_
open AH renaming get_set_same->a_,bH->s_,bk->x_,blank->F_
open AV renaming str->b_,int->d_,ab->g_,bool->w_,le->D_,bD->E_
open Go.IntKind renaming i64->f_
open Nat renaming blt->h_,beq->l_,ble->q_,blt_eq->y_
open Int renaming ofNat->i_
open Option renaming none->k_,some->n_
open Decidable renaming decide->m_
open Classical renaming byContradiction->o_,axiomOfChoice->C_
noncomputable section
def fj(g:Nat)(gs:List bj)(i:Nat):List AV:=[.fc (qL g (aK gs i)) 0]
def C9(g:Nat)(gs:List bj):List (Nat×ABlk):=[(16,.rows gs.length 1 (fj g gs) (.ty 89))]
def JM(q:Query)(gs:List bj):St:={t:=Tr.ofList [(6,.own 16 gs.length 1)],nt:=86,H:=hG q 17 (C9 q.ng gs),df:=[]}
def ul{q:Query}{gs:List bj}{c:fw}{ρ:Env}{w:World}(h:Rel c ρ (fB q gs) w):∀j,j<=gs.length->
  ∃ρ' H',Ext ρ ρ'/\Rel c ρ' H' w/\H'.n=17+3*gs.length/\(∀l,l<17->H'.get l=(fB q gs).get l)/\(∀i d,j<=i->i<gs.length->d<3->H'.get (17+3*i+d)=lU (aK gs i) q.ng (17+3*i+d) d)/\
   ∀i,i<j->∀v,VR ρ (.ptr (17+3*i) 0 0 0) v->VR ρ'.bare (.fc (qL q.ng (aK gs i)) 0) v
 |0,_=>⟨ρ,_,Ext.refl ρ,h,rfl,λ_ _=>rfl,λi d _ hi m=>lV hi m,λi hi=>absurd hi (lZ _)⟩
 |j+1,J=>by
  obtain⟨o,H1,s,r1,n1,lo,a,old⟩:=ul h j O
  have f:=h.dF 15
  rw[w4]at f
  obtain⟨_,_,u,_,_,D,_⟩:=f
  have t:VR ρ (.ptr (17+3*j) 0 0 0) (u j):=D j O
  have E:=a j 0 (dw _) O O
  have t1:=a j 1 (dw _) O O
  have t2:=a j 2 (dw _) O O
  obtain⟨fn,F⟩:=NX (H:=H1) (l:=17+3*j) (g:=q.ng) (x:=aK gs j) E t1 t2
  obtain⟨p,y,G,C⟩:=F c o w (u j) r1 (VR.ext s _ _ t)
  refine⟨p,_,s.trans y,G,fn.trans n1,λl hl=>?_,λi d hi r m=>?_,λi hi v k=>?_⟩
  ·rw[s_,if_neg O,s_,if_neg O,s_,if_neg O,lo l hl]
  ·rw[s_,if_neg O,s_,if_neg O,s_,if_neg O,a i d O r m]
  ·by_cases e:i=j
   ·subst e
    obtain⟨b,N,a1,rfl⟩:=oO.1 k
    obtain⟨K,L,a2,I⟩:=oO.1 t
    rw[a1]at a2
    cases a2
    rw[I]at C
    exact C
   ·exact VR.ext y.bare _ _ (old i O v k)
def FF{q:Query}{gs:List bj}{c:fw}{ρ:Env}{w:World}(H:Rel c ρ (fB q gs) w)(y:c.G=II.G)(K:∀l,c.E l->l<16):
  ∃ρ',iU 17 ρ ρ'/\Rel c ρ' (hG q 17 (C9 q.ng gs)) w/\∀a v,D_ (lK (17+3*gs.length)) a a->VR ρ a v->VR ρ' a v:=by
 obtain⟨o,H1,C,r1,n1,lo,_,old⟩:=ul H gs.length (dw _)
 have nd:∀l,l<15->cD (C9 q.ng gs) l= .dead:=λl hl=>by
  simp only[C9,cD];rw[if_neg O]
 have conv:∀i,i<gs.length->∀v,VR o (.ptr (17+3*i) 0 0 0) v->VR o (.fc (qL q.ng (aK gs i)) 0) v:=λi hi v k=>by
  have s:=H.dF 15
  rw[w4]at s
  obtain⟨_,_,u,_,_,L,_⟩:=s
  have I:=L i hi
  have:=VR.ext (Ext.qU o) _ _ (old i hi _ I)
  obtain⟨b,N,a1,rfl⟩:=oO.1 k
  obtain⟨Y,Z,a2,M⟩:=oO.1 (VR.ext C _ _ I)
  rw[a1]at a2
  cases a2
  rw[M]at this
  exact this
 have g:∀l,(H1.set 16 (.rows gs.length 1 (fj q.ng gs) (.ty 89))).get l=if l=16 then .rows gs.length 1 (fj q.ng gs) (.ty 89)else H1.get l:=λl=>s_ _ _ _ _
 have m:H1.get 16= .rows gs.length 1 oe (.ty 89):=by rw[lo 16 O,y3]
 have P:Rel c o (H1.set 16 (.rows gs.length 1 (fj q.ng gs) (.ty 89))) w:=by
  refine r1.alike A (λl hl=>?_) (λl=>?_) λl=>?_
  ·rw[g]
   by_cases r:l=16
   ·subst r
    rw[if_pos A]
    rw[m]at hl
    refine⟨λ_ _=>rfl,?_⟩
    rcases hl.2 with⟨h1,D⟩|⟨bb,N,vs,rest,el,fr,h1,D,Q,R,S⟩
    ·left
     refine⟨?_,D⟩
     cases T:gs.length with
     |zero=>rfl
     |succ n=>
      rw[T]at h1
      have:=congrArg B h1
      rw[bE (n:=n+1) (e:=1) (f:=oe) λ_ _=>rfl]at this
      simp at this
    ·right
     refine⟨bb,N,vs,rest,el,fr,h1,D,Q,?_,S⟩
     obtain⟨q1,U⟩:=mT (f:=oe) (λ_=>rfl) R
     refine oI q1 λi hi=>?_
     obtain⟨v,V,W⟩:=U i hi
     exact⟨v,V,aU.aL.2 ⟨conv i hi v (aU.aL.1 W).1,zH⟩⟩
   ·rw[if_neg r];exact hl
  ·rw[g]
   by_cases r:l=16
   ·subst r;rw[if_pos A,m];rfl
   ·rw[if_neg r]
  ·rw[g]
   by_cases r:l=16
   ·subst r;rw[if_pos A,m];exact⟨(λe=>zC),(λe=>zC)⟩
   ·rw[if_neg r]
 have d:∀l,l<17->lK (17+3*gs.length) l=l:=λl h=>by unfold lK;rw[if_pos h]
 have t:AH.Le 17 (lK (17+3*gs.length)) (H1.set 16 (.rows gs.length 1 (fj q.ng gs) (.ty 89))) (hG q 17 (C9 q.ng gs)):=by
  have p:∀l,(hG q 17 (C9 q.ng gs)).get l≠ .dead->l<17:=λl F=>Nat.lt_of_not_le λhl=>F (by
   rw[eX nd,if_neg O,if_neg O]
   simp only[C9,cD];rw[if_neg O])
  refine⟨dw _,d,λl hl=>?_,λl=>?_,λl J k X e _=>?_,λl hl=>?_⟩
  ·show H1.n<=_
   have hl:17<=l:=hl
   unfold lK;rw[if_neg O];omega
  ·rw[eX nd]
   by_cases h:l<14
   ·refine .inr (.inl ?_)
    rw[if_pos h,d l O,g,if_neg O,lo l O,lE h]
    exact G9 (λj hj=>d j O) l
   ·rw[if_neg h]
    by_cases x:l=14
    ·refine .inr (.inl ?_)
     subst x
     rw[if_pos A,d 14 O,g,if_neg O,lo 14 O,oQ]
     exact⟨iY _ _,rfl⟩
    ·rw[if_neg x]
     by_cases m:l=16
     ·refine .inr (.inl ?_)
      subst m
      rw[d 16 O,g,if_pos A]
      exact⟨rfl,rfl,λi hi=>⟨⟨⟨⟨rfl,rfl,λj _=>jw _ _ j⟩,⟨rfl,rfl,λj _=>kS _ _ _ _ j⟩,⟨rfl,rfl,λj _=>jw _ _ j⟩,trivial⟩,rfl⟩,trivial⟩,rfl⟩
     ·refine .inl ?_
      simp only[C9,cD];rw[if_neg m]
  ·rw[d l (p l k),d J (p J X)]at e;exact e
  ·exact o_ λF=>by
    have:=p l F
    have hl:17<=l:=hl
    omega
 exact⟨_,(iU.of C).trans (t.ext o),P.view t (by rw[y];decide) (λl hl=>by have:=K l hl;omega),λa v h k=>VR.le _ _ _ h (VR.ext C _ _ k)⟩
def NY{ks:List (aC PP II)}{f key n0:Nat}{s C:St}(h:XZ ks f key n0 s C){SB:St}{σ:Nat->Nat}(ht:∀i,cR SB.t i=(cR s.t i).bD σ)(o:SB.nt=s.nt)(l:s.df=[]/\SB.df=[])
  (ro:Option Nat) (n:Nat) (c:fw) (ρ:Env) (a:Act) (w:World) (q:ro=k_) (hG:c.G=II.G) (F:Sub c.G σ s.H SB.H) (m:cA c ρ SB a w):
  (aD II f key).wpIn (WF ro) n PP (λx a1 D=>x= .exit 0/\∃d j,St.Le n0 d C/\cA (c.iT ρ s.H SB.H σ w) j d a1 D) a w:=by
 obtain⟨e,k,I⟩:=nH iw ks (bm PP II []) 1000 false _ _ _ h
 have u:cA (c.iT ρ s.H SB.H σ w) (ρ.fC σ) s a w:=by
  refine⟨⟨m.tmp.1.trans o,λi=>?_⟩,m.heap.iT F,?_⟩
  ·have:=m.tmp.2 i
   rw[ht]at this
   exact VR.gR _ _ this
  ·have:=m.df
   rw[l.2]at this
   rw[l.1]
   exact this
 have J:(aD II f key).wpIn (WF ro) n PP (e.post (c.iT ρ s.H SB.H σ w) (ρ.fC σ)) a w:=I ro n (c.iT ρ s.H SB.H σ w) (ρ.fC σ) a w (λ_=>q) hG u
 refine wpIn_mono J λx a1 D E=>?_
 cases e with
 |x b d=>
  cases x with
  |exit id=>
   obtain⟨rfl,j,_,y⟩:=E
   obtain⟨rfl,k⟩:=k
   obtain⟨k1,_⟩:=mF.ok (K:=True) k
   exact⟨rfl,d,j,k1,y⟩
  |_=>exact E.elim
 |n d=>exact(k:False).elim
 |g b d=>exact(k:False).elim
 |r d=>exact(k:False).elim
 |p v d=>exact(k:False).elim
def NZ{S:Nat->St}{E:aQ}{n0 k:Nat}{c:Code}
  (g:∀i,i<k->∀n b ρ a w,b.G=II.G->(∀l,b.E l->l<n0)->cA b ρ (S i) a w->c.wpIn (WF k_) n PP (λx a1 f=>x= .normal/\∃ρ',iU n0 ρ ρ'/\cA b ρ' (S (i+1)) a1 f) a w)
  (last:∀n b ρ a w,b.G=II.G->(∀l,b.E l->l<n0)->cA b ρ (S k) a w->c.wpIn (WF k_) n PP (λx a1 f=>x≠ .normal/\E.kx n0 b ρ x a1 f) a w):
  ∀d i,i+d=k->∀t,t= .inLoop c∨t= .code (.loop c)->∀n b ρ a w,b.G=II.G->(∀l,b.E l->l<n0)->cA b ρ (S i) a w->fG (WF k_) n PP t (E.kx n0 b ρ) a w:=by
 intro d
 induction d with
 |zero=>
  intro i hi t ht n b ρ a w hG h j
  have:i=k:=O
  subst this
  refine mB t ht (wpIn_mono (last n b ρ a w hG h j) λx a1 f e=>?_)
  obtain⟨hx,e⟩:=e
  cases x with
  |normal=>exact absurd A hx
  |_=>exact e
 |succ d m=>
  intro i hi t ht n b ρ a w hG h j
  refine mB t ht (wpIn_mono (g i O n b ρ a w hG h j) λx a1 f e=>?_)
  obtain⟨rfl,ρ',o,p⟩:=e
  exact(m (i+1) O (.inLoop c) (.inl A) n b ρ' a1 f hG h p).mono λx a w e=>aQ.ja o e
def N1(q:Query)(k:Nat)(F:Nat->ay)(gs:List bj)(n:Nat)(c:fw)(ρ:Env)(a:Act)(w:World)(d:c.G=II.G)(C:∀l,c.E l->l<16)(r:cA c ρ (Ha q k F gs k) a w):
  (aD II 40 4001).wpIn (WF k_) n PP (λx a1 s=>x≠ .normal/\(aQ.x 0 (JM q gs)).kx 16 c ρ x a1 s) a w:=by
 have b:∀l,l<17->lK (17+3*gs.length) l=l:=λl h=>by unfold lK;rw[if_pos h]
 have f:∀l,17<=l->lK (17+3*gs.length) l=17+3*gs.length+(l-17):=λl h=>by unfold lK;rw[if_neg O]
 have nil:∀x,cD [] x= .dead:=λ_=>rfl
 have i:Sub c.G (lK (17+3*gs.length)) (hG q 17 []) (fB q gs):=by
  rw[d]
  refine A4 (H:=fB q gs) zA (λ_ _=>rfl) (λ_ _=>rfl) (λl h=>lE h) (oQ q gs) (λl h=>b l O) (λl h=>?_) (λl h=>f l h) (λl _ o=>absurd (nil l) o) λl D h I e=>by rw[b l h,b D I]at e;exact e
  rw[b l h];show l<17+3*gs.length;omega
 have p:Eb (lK (17+3*gs.length)) (hG q 17 []) (hG q 17 []) (fB q gs) (fB q gs):=
  {n:=by show 17+3*gs.length=17+3*gs.length+(17-17);omega
   old:=λl o=>i.same l o
   new:=λl hl=>by
    have hl:17<=l:=hl
    rw[f l hl,gu,if_neg O,i.low l hl];rfl
   rest:=λ_ _ _=>rfl}
 have u:∀j,cR (tG k F (.own 16 gs.length 1) (k:Int)) j=(cR (tG k F (.own 16 gs.length 1) (k:Int)) j).bD (lK (17+3*gs.length)):=λj=>tf (b 14 zA) (b 15 zA) (by show _=AV.own (lK _ 16) _ _;rw[b 16 zA]) j
 refine wpIn_mono (NY (SB:=Ha q k F gs k) (JJ q k F gs.length k (dw _)) u A ⟨rfl,rfl⟩ k_ n c ρ a w A d i r) λx a1 s J=>?_
 obtain⟨rfl,R,K,l1,r1⟩:=J
 obtain⟨L,_,M⟩:=r1.view l1 (by show c.G<=17;rw[d];decide) (λl hl=>hl)
 obtain⟨N,hx,_,m⟩:=pJ (SB':=Ha q k F gs k) r i M p u rfl ⟨rfl,rfl⟩
 obtain⟨g,v,P,Q⟩:=FF m.heap d C
 refine⟨(λe=>zC),rfl,g,(iU.of hx).trans ⟨λl hl=>v.1 l O,v.fz⟩,⟨m.tmp.1,λj=>?_⟩,P,m.df⟩
 have y:=m.tmp.2 j
 show VR g (cR (Tr.ofList [(6,.own 16 gs.length 1)]) j) _
 rw[fV]
 simp only[te]
 by_cases h:j=6
 ·rw[if_pos h]
  subst h
  have e:cR (Ha q k F gs k).t 6= .own 16 gs.length 1:=by show cR (tG k F _ _) 6=_;unfold tG;rw[fV];rfl
  rw[e]at y
  exact Q _ _ (show D_ _ (.own 16 gs.length 1) (.own 16 gs.length 1)from⟨(b 16 O).symm,rfl,rfl⟩) y
 ·rw[if_neg h]
  simp only[VR]
def Hd:List (Nat×ABlk):=[(15,.cT 0 (λ_=>[]) (λj=> .ptr (17+3*j) 0 0 0) k_),(16,.rows 0 1 oe (.ty 89))]
def N3(q:Query)(k:Nat)(F:Nat->ay):St:={t:=tG k F (.own 16 0 1) 0,nt:=86,H:=hG q 17 Hd,df:=[]}
def N4(q:Query)(k:Nat)(F:Nat -> ay){c:fw}{ρ :Env}{a:Act}{w:World}(g:cA c ρ (N3 q k F) a w)(m:c.G = II.G)(n:∀l,c.E l -> l < 16):∃ρ',iU 16 ρ ρ' /\ cA c ρ' (Ha q k F [] 0) a w := by
  have nd:∀l,l < 15 -> cD Hd l = .dead :=λl hl => by
    simp only[Hd,cD]; rw[if_neg O,if_neg O]
  have b:∀l,17<= l -> (fB q []).get l = .dead :=λl hl => w5 (by simpa using hl)
  have f:AH.Le 16 (λl => l) (hG q 17 Hd) (fB q []) := by
   refine⟨(by decide :16<= 17),λ_ _ => rfl,λl hl => hl,λl => ?_,λ_ _ _ _ e _ => e,λl hl => b l hl⟩
   rcases w6 0 l with h|rfl|rfl|rfl|⟨i,d,hi,_⟩|h
   · refine .inr (.inl ?_)
     rw[eX nd,if_pos h,lE h]
     exact G9 (λ_ _ => rfl) l
   · refine .inr (.inl ?_)
     rw[eX nd,if_neg O,if_pos A,oQ]
     exact⟨iY _ _,rfl⟩
   · refine .inr (.inl ?_)
     rw[eX nd,if_neg O,if_neg O,w4]
     exact⟨rfl,λ_ h => absurd h (lZ _),λ_ h => absurd h (lZ _),λ_ _ e => zC⟩
   · refine .inr (.inl ?_)
     rw[eX nd,if_neg O,if_neg O,y3]
     exact⟨rfl,rfl,λ_ h => absurd h (lZ _),rfl⟩
   · exact absurd hi (lZ _)
   · exact .inl (b l O)
  refine⟨_,f.ext ρ,⟨g.tmp.1,λj => VR.le _ _ _ ?_ (g.tmp.2 j)⟩,g.heap.view f (by rw[m]; decide) n,g.df⟩
  exact NS A A (show D_ _ (.own 16 0 1) (.own 16 0 1)from⟨rfl,rfl,rfl⟩) j
def Da(q:Query)(k:Nat)(F:Nat->ay)(o:k<=1000000)(p:ct q=true)(r:∀i,i<k->bB (F i)=true):aE PP II false (aD II 40 4001) 16 (N3 q k F) (.one (.x 0 (JM q (aV q F k)))) where
 h s0 f s:=by
  intro ro n e ρ a w g hG b
  cases g rfl
  have d:∀l,e.E l->l<16:=λl hl=>by have:=(b.heap.env l hl).1;omega
  obtain⟨t,u,r1⟩:=b.view s (by rw[hG];decide) d
  obtain⟨j,v,y⟩:=N4 q k F r1 hG d
  have:=NZ (S:=λi=>Ha q k F (aV q F i) i) (E:=.x 0 (JM q (aV q F k))) (n0:=16) (k:=k) (c:=aD II 40 4001) (λi hi n e ρ a w hG d b=>JI q k F i hi o p (r i hi) k_ n e ρ a w A hG d b) (λn e ρ a w hG d b=>N1 q k F _ n e ρ a w hG d b) k 0 O _ (.inr A) n e j a w hG d y
  refine this.mono λx a w m=>?_
  have m:=aQ.ja (u.trans v) m
  exact aQ.nG b.heap f.symm m
section
open Go.Proofs Go.Sort Go.Shelf Go.RowKit Go.Lib
def cb(a b:Nat->Int):Nat->Nat->Int
 |0,_=>0
 |d+1,k=>if Lib.compareInt (a k) (b k)=0 then cb a b d (k+1)else Lib.compareInt (a k) (b k)
set_option maxHeartbeats 4000000 in
def FG(b1 o1 c b2 o2 d n:Nat)(xs ys:Nat->Int)(w:World)(hn:n<=9)(hc1:∀j,j<n->w.cell? ⟨b1,o1+j,k_⟩=n_ (.int f_ (xs j)))(hc2:∀j,j<n->w.cell? ⟨b2,o2+j,k_⟩=n_ (.int f_ (ys j))):
  Calls Tryz.prog 76 #[.slice (n_ ⟨b1,o1,k_⟩) n c,.slice (n_ ⟨b2,o2,k_⟩) n d] w λe w'=>e= .returned (.int f_ (cb xs ys n 0))/\w'=w:=by
 go_enter Tryz.func76,Tryz.ntmps76
 go_wp2
 go_loopg [11] n (λg s wr=> ∃k:Nat,k<=n/\n-k<=g/\s= .int f_ k/\wr=w/\cb xs ys n 0=cb xs ys (n-k) k)
 case atStart=>exact⟨0,Nat.zero_le _,O,rfl,rfl,rfl⟩
 case round=>
  obtain⟨k,hk,hg,rfl,rfl,heq⟩:=hrel
  by_cases hlt:k<n
  ·have g1:=hc1 k hlt
   have g2:=hc2 k hlt
   have hcon:=AnyG.cmp_Compare_int Tryz.wB (xs k) (ys k) wr
   change Calls Tryz.prog 99 _ _ _ at hcon
   have e1:cb xs ys (n-k) k=if Lib.compareInt (xs k) (ys k)=0 then cb xs ys (n-(k+1)) (k+1)else Lib.compareInt (xs k) (ys k):=by
    rw[show n-k=(n-(k+1))+1 by omega];rfl
   rw[e1]at heq
   have a:Aside (cb xs ys n 0=if Lib.compareInt (xs k) (ys k)=0 then cb xs ys (n-(k+1)) (k+1)else Lib.compareInt (xs k) (ys k)):=heq
   clear heq e1 hc1 hc2
   generalize hxk:xs k=x at g1 hcon
   generalize hyk:ys k=y at g2 hcon
   have b:Aside (xs k=x/\ys k=y):=⟨hxk,hyk⟩
   clear hxk hyk
   generalize hr:Lib.compareInt x y=r at hcon
   have D:Aside (Lib.compareInt x y=r):=hr
   clear hr
   by_cases hz:r=0
   ·subst hz
    go_wp2_with (go_at_call 99;refine hcon.mono ?_;rintro e w' ⟨rfl,rfl⟩)
    go_roundg (n-(k+1))
    case measure=>omega
    case rel=>
     refine⟨k+1,O,O,by go_num,rfl,?_⟩
     have:=a.out
     rw[b.out.1,b.out.2,D.out,if_pos A]at this
     exact this
   ·go_wp2_with (go_at_call 99;refine hcon.mono ?_;rintro e w' ⟨rfl,rfl⟩)
    go_ret
    refine⟨?_,rfl⟩
    have:=a.out
    rw[b.out.1,b.out.2,D.out,if_neg hz]at this
    rw[this];rfl
  ·have:k=n:=by omega
   subst this
   clear hc1 hc2
   go_wp2
   go_ret
   refine⟨?_,rfl⟩
   rw[heq,Nat.sub_self]
   rfl
set_option maxHeartbeats 4000000 in
def uF(a1 a2:Option Addr)(c d:Nat)(w:World):Calls Tryz.prog 76 #[.slice a1 0 c,.slice a2 0 d] w λe w'=>e= .returned (.int f_ 0)/\w'=w:=by
 go_enter Tryz.func76,Tryz.ntmps76
 go_wp2
 go_loopg [11] 0 (λ_ s wr=>s= .int f_ 0/\wr=w)
 case atStart=>exact⟨rfl,rfl⟩
 case round=>
  obtain⟨rfl,rfl⟩:=hrel
  go_wp2
  go_ret
  exact⟨rfl,rfl⟩
set_option maxHeartbeats 4000000 in
def FH(b q1 c d n f g:Nat)(a1 a2:Option Addr)(r:Int)(W:World)(i:W.cell? ⟨b,q1,k_⟩=n_ (.slice a1 n f))(j:W.cell? ⟨c,d,k_⟩=n_ (.slice a2 n g))
  (h:∀a,(∃q,a=W.drewN q)->Calls Tryz.prog 76 #[.slice a1 n f,.slice a2 n g] a λe w'=>e= .returned (.int f_ r)/\w'=a):
  Calls Tryz.prog 94 #[.pointer (n_ ⟨b,q1,k_⟩),.pointer (n_ ⟨c,d,k_⟩)] W λe w'=>e= .returned (.int f_ r)/\∃q,w'=W.drewN q:=by
 go_enter Tryz.func94,Tryz.ntmps94
 go_wp2
 go_quiet (first|(go_at_call 76;refine Calls.quiet_of_same (h _ ⟨_,rfl⟩)))
 go_wp2
 go_ret
 exact⟨rfl,_,rfl⟩
end
section
open Go.Proofs Go.Sort Go.Shelf Go.RowKit Go.Lib
def QY(x y:Int):(Lib.compareInt x y<0)↔x<y:=by
 unfold Lib.compareInt
 by_cases h1:x<y
 ·simp[h1]
 ·by_cases a:y<x<;>simp[h1,a]
def He(x y:Int):(Lib.compareInt x y=0)↔x=y:=by
 unfold Lib.compareInt
 by_cases h1:x<y
 ·simp[h1];omega
 ·by_cases a:y<x
  ·simp[h1,a];omega
  ·simp[h1,a];omega
def kT(a b:Nat->Int)(d k:Nat):(cb a b (d+1) k<0)↔(a k<b k∨(a k=b k/\cb a b d (k+1)<0)):=by
 show((if Lib.compareInt (a k) (b k)=0 then cb a b d (k+1)else Lib.compareInt (a k) (b k))<0)↔_
 by_cases h:a k=b k
 ·rw[if_pos ((He _ _).2 h)]
  constructor
  ·exactλe=> .inr ⟨h,e⟩
  ·rintro(e|⟨_,e⟩)
   ·omega
   ·exact e
 ·rw[if_neg (λe=>h ((He _ _).1 e)),QY]
  constructor
  ·exact .inl
  ·rintro(e|⟨e,_⟩)
   ·exact e
   ·exact absurd e h
def Db(a:Nat->Int):∀d k,¬ cb a a d k<0
 |0,k=>by show¬ (0:Int)<0;omega
 |d+1,k=>by
  rw[kT]
  rintro(e|⟨_,e⟩)
  ·omega
  ·exact Db a d _ e
def xe(a b zs:Nat->Int):∀d k,cb a b d k<0->cb b zs d k<0->cb a zs d k<0
 |0,k=>λh=>by have h:(0:Int)<0:=h;omega
 |d+1,k=>by
  rw[kT,kT,kT]
  rintro(e|⟨e,c⟩) (f|⟨f,g⟩)
  ·left;omega
  ·left;omega
  ·left;omega
  ·exact .inr ⟨O,xe a b zs d _ c g⟩
def um(c g zs:Nat->Int):∀d k,¬ cb c g d k<0->¬ cb g zs d k<0->¬ cb c zs d k<0
 |0,k=>λ_ _=>by show¬ (0:Int)<0;omega
 |d+1,k=>by
  rw[kT,kT,kT]
  intro h i
  rintro(e|⟨e,j⟩)
  ·by_cases a:c k<g k
   ·exact h (.inl a)
   ·exact i (.inl O)
  ·by_cases a:c k=g k
   ·exact um c g zs d _ (λf=>h (.inr ⟨a,f⟩)) (λf=>i (.inr ⟨O,f⟩)) j
   ·by_cases b:c k<g k
    ·exact h (.inl b)
    ·exact i (.inl O)
def Dc(c g:Nat->Int):∀d k,¬ cb c g d k<0->¬ cb g c d k<0->∀j,j<d->c (k+j)=g (k+j)
 |0,k=>λ_ _ j h=>absurd h (lZ _)
 |d+1,k=>by
  rw[kT,kT]
  intro i l j h
  have e:c k=g k:=by
   by_cases a:c k<g k
   ·exact absurd (.inl a) i
   ·by_cases b:g k<c k
    ·exact absurd (.inl b) l
    ·omega
  cases j with
  |zero=>exact e
  |succ j=>
   have:=Dc c g d (k+1) (λf=>i (.inr ⟨e,f⟩)) (λf=>l (.inr ⟨e.symm,f⟩)) j O
   rwa[show k+(j+1)=k+1+j by omega]
def gw(a:List AV):Nat->Int:=match a with
 |[.fc (.ab _ _ f::_) _]=>aM f
 |_=>λ_=>0
def ti(g:Nat)(a:List AV):Bool:=match a with
 |[.fc (.ab m 1 f::_) 0]=>l_ m g&&bA g f
 |_=>false
def A7(g:Nat)(x y:Nat->Int):Bool:=(c_ g).all λk=>x k==y k
def pK(g n:Nat)(R:Nat->List AV):Bool:=(c_ n).all λi=>ti g (R i)&&(c_ n).all λj=>l_ i j || !A7 g (gw (R i)) (gw (R j))
def xf(a:List AV):AV:=match a with
 |x::_=>x
 |[]=> .any
def lW(g n:Nat)(R:Nat->List AV):List Nat:=(c_ n).mergeSort λx y=>!decide (cb (gw (R y)) (gw (R x)) g 0<0)
def lX(g n:Nat)(R:Nat->List AV)(i:Nat):List AV:=[xf (R ((lW g n R).getD i 0))]
def Rel.Uy{c:fw}{ρ:Env}{H:AH}{w:World}{l n e:Nat}{f g:Nat->List AV}{a:Access}(h:Rel c ρ H w)(hl:H.get l= .rows n e f a)(b:∀i,i<n->f i=g i):Rel c ρ (H.set l (.rows n e g a)) w:=by
 have m:rowsOf n f=rowsOf n g:=lR b
 have k:∀j,j≠l->(H.set l (.rows n e g a)).get j=H.get j:=λj e=>x_ _ _ (λo=>e o.symm)
 refine h.alike A (λj d=>?_) (λj=>?_) (λj=>?_)
 ·by_cases e:j=l
  ·subst e
   rw[a_]
   rw[hl]at d
   exact⟨λi hi=>by rw[<-b i hi];exact d.1 i hi,by have:=d.2;rwa[m]at this⟩
  ·rw[k j e];exact d
 ·by_cases e:j=l
  ·subst e;rw[a_,hl];rfl
  ·rw[k j e]
 ·by_cases e:j=l
  ·subst e;rw[a_,hl];exact⟨(λe=>zC),(λe=>zC)⟩
  ·rw[k j e]
def Hf{c:fw}{ρ:Env}{H:AH}{W:World}(e:Rel c ρ H W){b o:Nat}{vs:List Value}(h:qR ρ b o vs){j:Nat}{v:Value}(d:vs[j]? =n_ v):W.cell? ⟨b,o+j,k_⟩=n_ v:=by
 obtain⟨_,pre,rest,rfl,f⟩:=h
 obtain⟨el,fr,g⟩:=e.qY _ _ f
 have a:j<vs.length:=(List.getElem?_eq_some_iff.1 d).1
 unfold World.cell?
 rw[g]
 show(pre++vs++rest).toArray[pre.length+j]? =n_ v
 rw[List.getElem?_toArray,List.append_assoc,List.getElem?_append_right O,Nat.add_sub_cancel_left,List.getElem?_append_left a]
 exact d
def y5{c:fw}{ρ:Env}{H:AH}{W:World}(s:Rel c ρ H W){g:Nat}{a:List AV}(k:ti g a=true){v:Value}(y:aU ρ a [v]):
  ∃p q l n,v= .pointer (n_ ⟨p,q,k_⟩)/\W.cell? ⟨p,q,k_⟩=n_ (.slice l g n)/\(0<g->∃b o,l=n_ ⟨b,o,k_⟩/\∀j,j<g->W.cell? ⟨b,o+j,k_⟩=n_ (.int f_ (gw a j))):=by
 unfold ti at k
 split at k
 ·rename_i m f cs
  simp only[bf]at k
  obtain⟨k1,k2⟩:=k
  cases dE k1
  obtain⟨p,o,us,rfl,C,D⟩:=(aU.aL.1 y).1
  obtain⟨u,E,rfl,F,_⟩:=D
  have t:=Hf s C (j:=0) A
  have hi:=kZ k2
  rcases F with⟨G,rfl⟩|⟨b,I,n,l,J,rfl,_,K⟩
  ·exact⟨p,o,k_,0,rfl,by rw[G];exact t,λh=>absurd h O⟩
  ·refine⟨p,o,n_ l,n,rfl,t,λh=>?_⟩
   obtain⟨rfl,L,w⟩:=K h
   refine⟨b,I,rfl,λj r=>?_⟩
   have x:=L.row (λi hi=>(w i hi).1) r
   obtain⟨l1,l2⟩:=w j r
   rw[hi j r]at l2
   obtain⟨d,zs,e,M,_⟩:=l2
   rw[Nat.mul_one]at x
   have:=Hf s (ρ:=ρ) x (j:=0) (v:=d) (by rw[e];rfl)
   rw[Nat.add_zero]at this
   rw[this]
   exact congrArg n_ M
 ·cases k
end
section
open Go.Proofs Go.Sort Go.Shelf Go.RowKit Go.Lib
def rY{g n:Nat}{R:Nat->List AV}(h:pK g n R=true){i:Nat}(hi:i<n):ti g (R i)=true/\∀j,j<n->i≠j->A7 g (gw (R i)) (gw (R j))=false:=by
 have:=List.all_eq_true.1 h i (List.mem_range.2 hi)
 simp only[bf]at this
 refine⟨this.1,λj b a=>?_⟩
 have k:=List.all_eq_true.1 this.2 j (List.mem_range.2 b)
 rw[qK a]at k
 simpa using k
def JN{g:Nat}{a:List AV}(h:ti g a=true):a=[xf a]:=by
 unfold ti at h
 split at h
 ·rfl
 ·cases h
def FI{l:Nat}{H:AH}:af PP II 93 [.own l 0 1,.fn 94 [] []] H (.ret (.bK []) H):=by
 intro c ρ w vs hG a d
 obtain⟨u,us,rfl,f,g,h,rfl,i,rfl⟩:=a
 have hx:∃p cap,u= .slice p 0 cap:=by
  rcases f with⟨_,rfl⟩|⟨b,N,c,_,rfl,_⟩
  ·exact⟨_,_,rfl⟩
  ·exact⟨_,_,rfl⟩
 obtain⟨p,cap,rfl⟩:=hx
 have L:=Tryz.yR
 have:=AnyF.slices_SortFunc_none (P:=Tryz.prog) (ρ:=Tryz.qf) {L with} p cap g w
 change Calls Tryz.prog 93 _ _ _ at this
 refine .inl ⟨enters_of Tryz.func93 U A _ w,this.mono ?_⟩
 rintro e w' ⟨rfl,rfl⟩
 exact⟨ρ,Ext.refl ρ,d,[],rfl,rfl⟩
def Dd(g n:Nat)(R:Nat->List AV):(lW g n R).length=n:=by unfold lW;rw[j_];simp
def u4(g n:Nat)(R:Nat->List AV){i:Nat}(hi:i<n):(lW g n R).getD i 0<n:=by
 have hl:=Dd g n R
 rw[p_,mo O]
 have:(lW g n R)[i]'O∈lW g n R:=List.getElem_mem _
 unfold lW at this
 rw[List.mem_mergeSort]at this
 exact List.mem_range.1 this
set_option maxHeartbeats 1000000 in
def FJ{g n l:Nat}{R:Nat->List AV}{H:AH}(hl:H.get l= .rows n 1 R (.ty 89))(h0:0<n)(hg:g<=9)(hn:n<4611686018427387904)(J:pK g n R=true):
  af PP II 93 [.own l n 1,.fn 94 [] []] H (.ret (.bK []) (H.set l (.rows n 1 (lX g n R) (.ty 89)))):=by
 intro c ρ w vs hG hv hr
 obtain⟨u,us,rfl,K,u2,aj,rfl,e2,rfl⟩:=hv
 obtain⟨z1,z2,rfl,M,P⟩:=e2
 cases M
 cases P
 rcases K with⟨e,_⟩|⟨b,N,cap,hb,rfl,ap,az⟩
 ·omega
 have t:∀i,i<n->R i=[xf (R i)]:=λi hi=>JN (rY J hi).1
 have Q:Rel c ρ (H.set l (.rows n 1 (λi=>[xf (R i)]) (.ty 89))) w:=hr.Uy hl t
 obtain⟨S,T,g1,g2,g3,g4⟩:=Q.GZ (l:=l) (n:=n) (R:=λi=>[xf (R i)]) (a_ _ _ _) hb λ_=>rfl
 haveI:Inhabited (Fin n):=⟨⟨0,h0⟩⟩
 have hx:∀x:Fin n,∃v,T[x.1]? =n_ v:=λx=>⟨T[x.1]'O,mo _⟩
 obtain⟨enc,o⟩:=C_ hx
 have C:∀x,(enc x).oneCell'=true:=λx=>g3 _ (List.mem_of_getElem? (o x))
 have j:∀x:Fin n,aU ρ [xf (R x)] [enc x]:=λx=>by
  obtain⟨v,k1,k2⟩:=g2 x x.2
  have:=o x
  rw[k1]at this
  cases this
  exact k2
 have hd:((z n).toArray).toList.map enc=T:=by
  apply t_
  intro i
  by_cases hi:i<n
  ·have:=o ⟨i,hi⟩
   rw[this]
   simp[hi]
  ·rw[e_ zI,e_ O]
 obtain⟨hH,p⟩:=g4 enc (z n).toArray hd
 have D:(z n).toArray.size=n:=zB
 have hO:SWO (ltOf λx y:Fin n=>cb (gw (R x)) (gw (R y)) g 0):=
  {irrefl:=λx=>nZ (Db _ g 0)
   trans:=λx y d F G=>bW (xe _ _ _ g 0 (pT F) (pT G))
   ntrans:=λx y d F G=>nZ (um _ _ _ g 0 (of_decide_eq_false F) (of_decide_eq_false G))}
 have hT:∀x y:Fin n,(ltOf λx y:Fin n=>cb (gw (R x)) (gw (R y)) g 0) x y=false->(ltOf λx y:Fin n=>cb (gw (R x)) (gw (R y)) g 0) y x=false->x=y:=λx y F G=>o_ λV=>by
  have h3:=(rY J x.2).2 y y.2 (λe=>V (Fin.ext e))
  have W:=Dc _ _ g 0 (of_decide_eq_false F) (of_decide_eq_false G)
  have h4:A7 g (gw (R x)) (gw (R y))=true:=List.all_eq_true.2 λk hk=>by
   have:=W k (List.mem_range.1 hk)
   rw[Nat.zero_add]at this
   rw[this]
   exact beq_self_eq_true _
  rw[h3]at h4
  cases h4
 have I:CmpReads Tryz.prog 94 #[] enc (λx y:Fin n=>cb (gw (R x)) (gw (R y)) g 0) b 0 (z n).toArray.size w:=λm os X Y x y=>by
  rw[D]at Y
  have hW:=p X (λi=>[xf (R (if h:i<n then(X[i]'O).1 else 0))]) m os Y C (λ_=>rfl) λi hi=>⟨enc (X[i]'O),by simp[Y,hi],by simp only[hi,dif_pos];exact j _⟩
  obtain⟨p1,q1,a1,Z,k1,k2,k3⟩:=y5 hW (rY J x.2).1 (v:=enc x) (by rw[t x x.2];exact j x)
  obtain⟨p2,q2,a2,c2,m1,m2,m3⟩:=y5 hW (rY J y.2).1 (v:=enc y) (by rw[t y y.2];exact j y)
  rw[k1,m1]
  refine FH p1 q1 p2 q2 g Z c2 a1 a2 _ _ k2 m2 λW' hq=>?_
  obtain⟨q,rfl⟩:=hq
  by_cases ad:g=0
  ·subst ad
   exact uF a1 a2 Z c2 _
  ·obtain⟨b1,o1,rfl,r1⟩:=k3 O
   obtain⟨b2,o2,rfl,r2⟩:=m3 O
   exact FG b1 o1 Z b2 o2 c2 g _ _ _ hg r1 r2
 have eg:∀args w,(callFunc 94 args).run Tryz.prog w= .ok (.enter 94 args) w:=enters_of Tryz.func94 U A
 have:=Any.slices_SortFunc_total Tryz.yR enc C (λx y:Fin n=>cb (gw (R x)) (gw (R y)) g 0) hO 94 #[] b 0 cap (z n).toArray w eg I.lays hH S (by rw[D];exact hn) hT
 change Calls Tryz.prog 93 _ _ _ at this
 rw[D]at this
 refine .inl ⟨enters_of Tryz.func93 U A _ w,this.mono ?_⟩
 rintro e w' ⟨rfl,k,os,rfl⟩
 have E:((z n).mergeSort λx y=>!(ltOf λx y:Fin n=>cb (gw (R x)) (gw (R y)) g 0) y x).map Fin.val=lW g n R:=by
  refine(List.map_mergeSort (f:=Fin.val) (r:=λx y:Fin n=>!(ltOf λx y:Fin n=>cb (gw (R x)) (gw (R y)) g 0) y x) (s:=λx y=>!decide (cb (gw (R y)) (gw (R x)) g 0<0)) (l:=z n) (λa _ b _=>rfl)).trans ?_
  unfold lW
  congr 1
  apply t_
  intro i
  by_cases hi:i<n
  ·simp[hi]
  ·rw[e_ zI,e_ zI]
 have ag:=p ((z n).mergeSort λx y=>!(ltOf λx y:Fin n=>cb (gw (R x)) (gw (R y)) g 0) y x).toArray (lX g n R) k os (by simp[j_]) C (λ_=>rfl) λi hi=>by
  have ai:((z n).mergeSort λx y=>!(ltOf λx y:Fin n=>cb (gw (R x)) (gw (R y)) g 0) y x).length=n:=by rw[j_];simp
  have K:=mo (l:=(z n).mergeSort λx y=>!(ltOf λx y:Fin n=>cb (gw (R x)) (gw (R y)) g 0) y x) (i:=i) O
  refine⟨enc (((z n).mergeSort λx y=>!(ltOf λx y:Fin n=>cb (gw (R x)) (gw (R y)) g 0) y x)[i]'O),?_,?_⟩
  ·rw[u_]
   show Option.map enc (List.toArray _).toList[i]? =_
   rw[List.toList_toArray,K];rfl
  ·unfold lX
   have:(lW g n R).getD i 0=(((z n).mergeSort λx y=>!(ltOf λx y:Fin n=>cb (gw (R x)) (gw (R y)) g 0) y x)[i]'O).1:=by
    rw[<-E,p_,u_,K];rfl
   rw[this]
   exact j _
 refine⟨ρ,Ext.refl ρ,ag.congr A λi=>?_,[],rfl,rfl⟩
 by_cases L:i=l
 ·subst L;rw[a_,a_]
 ·rw[x_ _ _ (λd=>L d.symm),x_ _ _ (λd=>L d.symm),x_ _ _ (λd=>L d.symm)]
def N5(g:Nat):aC PP II where
 f:=93
 spec X args H a _:=match args with
  |[.own l n 1,.fn 94 [] []]=>match H.get l with
   | .rows m 1 R (.ty 89)=>X.ak (l_ n m&&q_ g 9&&h_ n 4611686018427387904&&pK g n R) (a (.bK []) (H.set l (.rows n 1 (lX g n R) (.ty 89))))
   |_=>X.fail
  |_=>X.fail
 ok X sem hX args H a kp h:=by
  split at h
  ·rename_i l n
   split at h
   ·rename_i m R hl
    obtain⟨b,d⟩:=hX.ak _ _ h
    simp only[bf,y_]at b
    obtain⟨⟨⟨a1,a2⟩,e⟩,a4⟩:=b
    cases dE a1
    refine⟨.ret _ _,d,?_⟩
    by_cases i:n=0
    ·subst i
     intro c ρ w vs hG j k
     exact FI c ρ w vs hG j (k.Nv hl)
    ·exact FJ hl O (jX a2) e a4
   ·exact zS
  ·exact zS
end
def JO(q:Query)(k:Nat)(F:Nat->ay)(gs:List bj)(Q:AV->Prop):(kq [N5 q.ng] [(4001,16,N3 q k F,.one (.x 0 (JM q gs)))] 40 [.agg (aY q),cm k F] Q)=(aE PP II false (aD II 40 4001) 16 (N3 q k F) (GE.one (aQ.x 0 (JM q gs)))/\zyN q.nw (zyR q.nw (au q.C) (zyN q.ng (zyR q.ng (aR q.G) (zyI q.a (zyI q.fl (zyB q.nu (zyB q.de (zyI q.top (zyB [48] (zyB [49] (zyR 5 aA (zyN k ((an k (λi=>aF (F i)) λi=>aF (F i))/\zyI (i_ k) (aa (l_ (B gs) (B gs)&&q_ q.ng 9&&h_ (B gs) 4611686018427387904&&pK q.ng (B gs) (fj q.ng gs)) (aa ((z_ (c_ (B gs)) λi=>bt.free (lX q.ng (B gs) (fj q.ng gs) i))&&m_ (B gs<=B gs)) (Q (g_ (B gs) 1 (lX q.ng (B gs) (fj q.ng gs)))))))))))))))))))):=U
structure xg (b:Query) (gs:List bj):Prop where
 key:∀a,a<gs.length->(aK gs a).key=[bif h_ 0 b.ng then(aK gs a).W 0 else 0,bif h_ 1 b.ng then(aK gs a).W 1 else 0,bif h_ 2 b.ng then(aK gs a).W 2 else 0]
 apart:∀i a,i<gs.length->a<gs.length->i≠a->(aK gs i).key≠(aK gs a).key
def tj(q:Query)(F:Nat->ay):∀i,xg q (aV q F i)
 |0=>⟨λj d=>absurd d (by simp[aV]),λi j hi=>absurd hi (by simp[aV])⟩
 |i+1=>by
  obtain⟨m,k⟩:=tj q F i
  show xg q (km q (aV q F i) i (F i))
  unfold km
  cases gk q (F i)with
  |false=>exact⟨m,k⟩
  |true=>
   simp only[cond_true]
   split
   ·rename_i j d
    obtain⟨d,_⟩:=lF d
    refine⟨λl hl=>?_,λa b ha f c=>?_⟩
    ·rw[v_]at hl
     rw[gg d]
     by_cases h:l=j
     ·rw[if_pos h];exact m j d
     ·rw[if_neg h];exact m l hl
    ·rw[v_]at ha f
     rw[gg d,gg d]
     by_cases h:a=j
     ·rw[if_pos h,if_neg (λe=>c (h.trans e.symm))]
      subst h
      exact k a b ha f c
     ·rw[if_neg h]
      by_cases g:b=j
      ·rw[if_pos g];subst g;exact k a b ha f c
      ·rw[if_neg g];exact k a b ha f c
   ·rename_i n
    have no:=xc n
    refine⟨λl hl=>?_,λa b ha f c=>?_⟩
    ·rw[gh]
     by_cases h:l=(aV q F i).length
     ·rw[if_pos h];rfl
     ·rw[if_neg h];exact m l (by simp at hl;omega)
    ·simp only[List.length_append,List.length_cons,List.length_nil]at ha f
     rw[gh,gh]
     by_cases h:a=(aV q F i).length
     ·rw[if_pos h,if_neg O]
      exactλe=>no b O e.symm
     ·rw[if_neg h]
      by_cases g:b=(aV q F i).length
      ·rw[if_pos g];exact no a O
      ·rw[if_neg g];exact k a b O O c
def kc(n:Nat)(W:Nat->Int):bA n (ae W)=true:=List.all_eq_true.2 λ_ _=>rfl
def N6{q:Query}{gs:List bj}(h:xg q gs)(g:q.ng<=3):pK q.ng gs.length (fj q.ng gs)=true:=by
 refine List.all_eq_true.2 λi hi=>?_
 have hi:=List.mem_range.1 hi
 rw[bf]
 refine⟨?_,List.all_eq_true.2 λj c=>?_⟩
 ·show(l_ q.ng q.ng&&bA q.ng (ae _))=true
  rw[ni,kc];rfl
 ·have c:=List.mem_range.1 c
  by_cases e:i=j
  ·subst e;rw[ni];rfl
  ·rw[qK e,Bool.false_or,Bool.not_eq_true']
   cases he:A7 q.ng (gw (fj q.ng gs i)) (gw (fj q.ng gs j))with
   |false=>rfl
   |true=>
    refine absurd ?_ (h.apart i j hi c e)
    have a:∀k,k<q.ng->(aK gs i).W k=(aK gs j).W k:=λk f=>by
     have:=List.all_eq_true.1 he k (List.mem_range.2 f)
     have:=eq_of_beq this
     exact this
    rw[h.key i hi,h.key j c]
    have b:∀k,(bif h_ k q.ng then(aK gs i).W k else 0)=bif h_ k q.ng then(aK gs j).W k else 0:=λk=>by
     cases d:h_ k q.ng with
     |true=>rw[cond_true,cond_true,a k (by rw[y_]at d;exact d)]
     |false=>rfl
    rw[b 0,b 1,b 2]
def De(q:Query)(gs:List bj):AV:=.ab gs.length 1 (lX q.ng gs.length (fj q.ng gs))
def FK(g n:Nat)(gs:List bj):((c_ n).all λi=>bt.free (lX g n (fj g gs) i))=true:=List.all_eq_true.2 λi _=>rfl
def qM(g n:Nat)(gs:List bj):an n (lX g n (fj g gs)) (lX g n (fj g gs)):=λi _ σ=>⟨⟨⟨⟨rfl,rfl,λj _=>jw _ _ j⟩,⟨rfl,rfl,λj _=>kS _ _ _ _ j⟩,⟨rfl,rfl,λj _=>jw _ _ j⟩,trivial⟩,rfl⟩,trivial⟩
def JP{q:Query}{k:Nat}{F:Nat->ay}(b:ct q=true)(d:k<=1000000)(e:∀i,i<k->bB (F i)=true):af PP II 40 [.agg (aY q),cm k F] HR (.ret (De q (aV q F k)) HR):=by
 refine qh (ks:=[N5 q.ng]) (T:=[(4001,16,N3 q k F,.one (.x 0 (JM q (aV q F k))))]) ?_
 rw[JO]
 have a:=Xs b
 have c:=(lG q F k).len
 have fl:=gU k F
 have a1:(l_ (aV q F k).length (aV q F k).length&&q_ q.ng 9&&h_ (aV q F k).length 4611686018427387904&&pK q.ng (aV q F k).length (fj q.ng (aV q F k)))=true:=by
  rw[ni,kV (O:q.ng<=9),eV (O:(aV q F k).length<4611686018427387904),N6 (tj q F k) a];rfl
 have a2:=FK q.ng (aV q F k).length (aV q F k)
 refine⟨Da q k F d b e,?_⟩
 repeat' (first|with_reducible refine Zf A ?_|with_reducible refine YG A ?_|with_reducible refine Zi A ?_|with_reducible refine And.intro ?_ ?_|with_reducible exact bC _ _|with_reducible exact bO _ _|with_reducible exact aZ|with_reducible exact fl|with_reducible exact trivial|with_reducible refine cC _ _ a1 ?_|exact cC _ _ (by rw[a2];simp) (λσ=>⟨rfl,rfl,λi hi=>qM _ _ _ i hi σ⟩))
def ie(k:Nat)(f:Nat->List AV):Bool:=fh k f&&(c_ k).all λi=>bB (bP f i)
def rZ(q:Query):aC PP II:=aC.s9 40
 (λX args a=>match args with
  |[.agg cs,.ab k 10 f]=>X.ak (qT q cs&&ct q&&q_ k 1000000&&ie k f) (a (De q (aV q (bP f) k)))
  |_=>X.fail)
 λX sem hX args a h=>by
  split at h
  ·rename_i cs k f
   obtain⟨b,c⟩:=hX.ak _ _ h
   simp only[bf]at b
   obtain⟨⟨⟨a1,a2⟩,d⟩,a4⟩:=b
   obtain⟨l1,l2⟩:=mi a1
   unfold ie at a4
   simp only[bf]at a4
   refine⟨_,c,λ_=>rfl,λσ=>?_,af.dA (JP a2 (jX d) λi hi=>List.all_eq_true.1 a4.2 i (List.mem_range.2 hi)) l1 (fq a4.1)⟩
   show [E_ σ (.agg _),_]=_
   rw[l2];rfl
  ·exact zS
def r6(q:Query):aC PP II:=aC.s9 41
 (λX args a=>match args with
  |[.agg cs,.ab k 3 r]=>X.ak (qT q cs&&ct q&&lD k r&&bX k (ka r)&&bX k (iF r)) (a (CW q k (ka r) (iF r) (iG r)))
  |_=>X.fail)
 λX sem hX args a h=>by
  split at h
  ·obtain⟨b,c⟩:=hX.ak _ _ h
   simp only[bf]at b
   obtain⟨⟨⟨⟨a1,a2⟩,d⟩,a4⟩,e⟩:=b
   obtain⟨r1,f,g⟩:=eb a2
   obtain⟨l1,l2⟩:=mi a1
   refine⟨_,c,λ_=>rfl,λσ=>?_,af.dA (Jt r1 f g a4 e) l1 (oL d)⟩
   show [E_ σ (.agg _),_]=_
   rw[l2];rfl
  ·exact zS
def j4.two{x a a':AV}{H H':AH}(h:j4 a H a' H')(hx:x.free=true):sM [x,a] H [x,a'] H':=⟨h.1,λc ρ w vs f i=>by
 obtain⟨u,us,rfl,j,b,l,rfl,m,rfl⟩:=i
 obtain⟨ρ',d,o,q⟩:=h.2 c ρ w b f m
 exact⟨ρ',d,o,u,[b],rfl,VR.ext d.bare _ _ (VR.free _ _ hx j),b,[],rfl,q,rfl⟩⟩
def Hg:aC PP II where
 f:=42
 spec X args H a kp:=match args with
  |[.agg cs,.own l m 9]=>match H.get l with
   | .rows n 9 r (.ty 44)=>X.ak (l_ n m&&bt.free cs&&(c_ n).all λi=>bt.free (r i)) (WZ.spec X [.agg cs,.ab m 9 r] (H.set l (.rows n 9 r .ro)) a kp)
   |_=>X.fail
  |_=>X.fail
 ok X sem hX args H a kp h:=by
  split at h
  ·rename_i cs l m
   split at h
   ·rename_i n r hl
    obtain⟨b,c⟩:=hX.ak _ _ h
    simp only[bf]at b
    obtain⟨⟨a1,a2⟩,d⟩:=b
    cases dE a1
    obtain⟨o,k1,k2⟩:=WZ.ok X sem hX _ _ _ _ c
    refine⟨o,k1,af.nI (j4.two ?_ (show AV.free (.agg cs)=true from a2)) k2⟩
    have e:l6 H l=n_ (H.set l (.rows m 9 r .ro)):=by unfold l6;rw[hl]
    have:qC RI.jY (0+1) (.own l m 9) H (λa' H'=>a'= .ab m 9 r/\H'=H.set l (.rows m 9 r .ro)):=by
     rw[A6 RI.jY _ e (a_ _ _ _)]
     exact Ze (by rw[d,bW (dw m)];rfl) ⟨rfl,rfl⟩
    obtain⟨a',H',⟨rfl,rfl⟩,g⟩:=lm (sem:=id) RI.dJ _ _ H _ this
    exact g
   ·exact zS
  ·exact zS
def N7(q:Query)(Q:AV->Prop):(kb [lQ] [] 38 [.agg (aY q)] Q)=(aa (aI 3 q.nw (au q.C)&&aI 1 q.ng (aR q.G)) (aa (eU {nw:=q.nw,C:=bG (au q.C),ng:=q.ng,G:=λj=>q.G j,a:=q.a,fl:=q.fl,nu:=q.nu,de:=q.de,top:=q.top}) (ah (m_ (q.fl=0)) (Q (w_ true)) (ah (m_ (q.fl=7)) (Q (w_ true)) (ah (m_ (q.fl=8)) (Q (w_ true)) (Q (w_ true))))))):=U
def N8{q:Query}(h:ct q=true):af PP II 38 [.agg (aY q)] (F_ 12) (.ret (.bool true) (F_ 12)):=by
 obtain⟨a,b,c⟩:=eb h
 refine bY (ks:=[lQ]) (T:=[]) (λ_=>rfl) ?_
 rw[N7]
 refine cC _ _ (by rw[a,b];rfl) (cC _ _ ((oH q).trans c) ?_)
 exact Zh (λ_=>rfl) λ_=>Zh (λ_=>rfl) λ_=>Zh (λ_=>rfl) λ_=>rfl
def u5(q:Query):aC PP II:=aC.pure 38
 (λX args b=>match args with
  |[.agg cs]=>X.ak (qT q cs&&ct q) (b (.bool true))
  |_=>X.fail)
 λX sem hX args b h=>by
  split at h
  ·obtain⟨a,c⟩:=hX.ak _ _ h
   rw[bf]at a
   exact⟨_,c,λ_=>rfl,λσ=>by show [E_ σ (.agg _)]=_;rw[(mi a.1).2],(N8 a.2).dq ⟨(mi a.1).1,trivial⟩⟩
  ·exact zS
def qN(g:Nat)(X:Nat->bj)(i:Nat):List AV:=[.fc (qL g (X i)) 0]
def og(q:Query)(gs:List bj)(i:Nat):bj:=aK gs ((lW q.ng gs.length (fj q.ng gs)).getD i 0)
def dK(X:Nat->bj)(i k:Nat):Int:=(X i).W k
def jC(q:Query)(X:Nat->bj)(i k:Nat):List UInt8:=match k with
 |0=>(eO q (X i).m (X i).L (X i).C).1
 |1=>(eO q (X i).m (X i).L (X i).C).2
 |2=>(dQ q (X i).m (X i).G (X i).C).1
 |_=>(dQ q (X i).m (X i).G (X i).C).2
def YI(q:Query)(K:Nat->Nat->Int)(S:Nat->Nat->List UInt8)(no:Nat):AH:=hQ 16 [(14,.cells (aY q) (.ty 32)),(15,.rows no 9 (aX q.ng K S) (.ty 44))]
def QZ(q:Query)(n:Nat)(X:Nat->bj)(K:Nat->Nat->Int)(S:Nat->Nat->List UInt8)(N:Int->Nat)(i:Int):St:={t:=Tr.ofList [(2,.ptr 14 0 0 0),(6,.own 15 (N i) 9),(21,.ab n 1 (qN q.ng X)),(22,.int f_ (i_ n)),(23,.int f_ i)],nt:=52,H:=YI q K S (N i),df:=[]}
def Q0(q:Query)(n:Nat)(K:Nat->Nat->Int)(S:Nat->Nat->List UInt8):GE:=.one (.x 0 {t:=Tr.ofList [(2,.ptr 14 0 0 0),(6,.own 15 n 9)],nt:=52,H:=YI q K S n,df:=[]})
def Df(q:Query)(n:Nat)(X:Nat->bj)(K:Nat->Nat->Int)(S:Nat->Nat->List UInt8)(N:Int->Nat)(i:Int)(Q:Prop):(kr [r6 q] [] 13 5001 15 (QZ q n X K S N) (λ_=>Q0 q n K S) (λi=>i+1) Q i)=(ah (m_ (i<i_ n)) (aa (m_ (0<=i)&&m_ (i<i_ n)) (aa (qT q [g_ q.nw 3 (au q.C),g_ q.ng 1 (aR q.G),d_ f_ q.a,d_ f_ q.fl,b_ q.nu,b_ q.de,d_ f_ q.top]&&ct q&&lD (bj.m (X i.toNat)) (bi (bj.L (X i.toNat)) (bj.G (X i.toNat)) (bj.C (X i.toNat)))&&bX (bj.m (X i.toNat)) (ka (bi (bj.L (X i.toNat)) (bj.G (X i.toNat)) (bj.C (X i.toNat))))&&bX (bj.m (X i.toNat)) (iF (bi (bj.L (X i.toNat)) (bj.G (X i.toNat)) (bj.C (X i.toNat))))) (aa (m_ (N i<=N i)&&true&&true&&m_ ((N i+1)*152<=140737488355328)&&true) (aa (aN f_ (i+1)) (ax (N i+1) (N (i+1)) (an (N i+1) (λb=>bif h_ b (N i)then aX q.ng K S b else List.take 9 (List.drop (0+(b-N i)*9) [g_ q.ng 1 (ae (bj.W (X i.toNat))),b_ (Prod.fst (eO q (bj.m (X i.toNat)) (ka (bi (bj.L (X i.toNat)) (bj.G (X i.toNat)) (bj.C (X i.toNat)))) (iG (bi (bj.L (X i.toNat)) (bj.G (X i.toNat)) (bj.C (X i.toNat)))))),b_ (Prod.snd (eO q (bj.m (X i.toNat)) (ka (bi (bj.L (X i.toNat)) (bj.G (X i.toNat)) (bj.C (X i.toNat)))) (iG (bi (bj.L (X i.toNat)) (bj.G (X i.toNat)) (bj.C (X i.toNat)))))),b_ (Prod.fst (dQ q (bj.m (X i.toNat)) (iF (bi (bj.L (X i.toNat)) (bj.G (X i.toNat)) (bj.C (X i.toNat)))) (iG (bi (bj.L (X i.toNat)) (bj.G (X i.toNat)) (bj.C (X i.toNat)))))),b_ (Prod.snd (dQ q (bj.m (X i.toNat)) (iF (bi (bj.L (X i.toNat)) (bj.G (X i.toNat)) (bj.C (X i.toNat)))) (iG (bi (bj.L (X i.toNat)) (bj.G (X i.toNat)) (bj.C (X i.toNat)))))),b_ [48],b_ [49],b_ [48],b_ [49]])) (aX q.ng K S)/\zyN q.nw (zyR q.nw (au q.C) (zyN q.ng (zyR q.ng (aR q.G) (zyI q.a (zyI q.fl (zyB q.nu (zyB q.de (zyI q.top (zyB [48] (zyB [49] (zyR 5 aA (zyI (i+1) (zyN n ((an n (λi=>[AV.fc [g_ q.ng 1 (ae (X i).W),g_ (X i).m 3 (bi (X i).L (X i).G (X i).C),g_ (X i).m 1 (ae (X i).T)] 0]) λi=>[AV.fc [g_ q.ng 1 (ae (X i).W),g_ (X i).m 3 (bi (X i).L (X i).G (X i).C),g_ (X i).m 1 (ae (X i).T)] 0])/\ax (N i+1) (N (i+1)) (zyI (i_ n) Q))))))))))))))))))))) (ax (N i) n (zyR (N i) (aX q.ng K S) (zyN q.nw (zyR q.nw (au q.C) (zyN q.ng (zyR q.ng (aR q.G) (zyI q.a (zyI q.fl (zyB q.nu (zyB q.de (zyI q.top (zyB [48] (zyB [49] (zyR 5 aA (ax (N i) n True)))))))))))))))):=U
def Uz(q:Query)(k:Nat)(F:Nat->ay)(n:Nat)(X:Nat->bj)(K:Nat->Nat->Int)(S:Nat->Nat->List UInt8)(N:Int->Nat)(Q:AV->Prop):(kq [u5 q,uT,rZ q,Hg] [(5001,15,QZ q n X K S N 0,Q0 q n K S)] 13 [.agg (aY q),cm k F] Q)=(aa (qT q [g_ q.nw 3 (au q.C),g_ q.ng 1 (aR q.G),d_ f_ q.a,d_ f_ q.fl,b_ q.nu,b_ q.de,d_ f_ q.top]&&ct q) (aa (m_ (k<=1000000)&&fh k λi=>aF (F i)) (ah (!cX k (bP λi=>aF (F i))) (Q (AV.bK [AV.aw,d_ f_ 200])) (aa (qT q [g_ q.nw 3 (au q.C),g_ q.ng 1 (aR q.G),d_ f_ q.a,d_ f_ q.fl,b_ q.nu,b_ q.de,d_ f_ q.top]&&ct q&&q_ k 1000000&&ie k λi=>aF (F i)) (aE PP II false (aD II 13 5001) 15 (QZ q n X K S N 0) (Q0 q n K S)/\ax (N 0) 0 (zyN q.nw (zyR q.nw (au q.C) (zyN q.ng (zyR q.ng (aR q.G) (zyI q.a (zyI q.fl (zyB q.nu (zyB q.de (zyI q.top (zyB [48] (zyB [49] (zyR 5 aA (ax (B (aV q (bP λi=>aF (F i)) k)) n (an (B (aV q (bP λi=>aF (F i)) k)) (lX q.ng (B (aV q (bP λi=>aF (F i)) k)) (fj q.ng (aV q (bP λi=>aF (F i)) k))) (qN q.ng X)/\ax (N 0) 0 (aH (i_ (B (aV q (bP λi=>aF (F i)) k))) (i_ n) (aa (l_ n n&&bt.free [g_ q.nw 3 (au q.C),g_ q.ng 1 (aR q.G),d_ f_ q.a,d_ f_ q.fl,b_ q.nu,b_ q.de,d_ f_ q.top]&&z_ (c_ n) λi=>bt.free (aX q.ng K S i)) (aa (gn [g_ q.nw 3 (au q.C),g_ q.ng 1 (aR q.G),d_ f_ q.a,d_ f_ q.fl,b_ q.nu,b_ q.de,d_ f_ q.top]&&wT q.ng n (aX q.ng K S)&&Ft n (nV (aX q.ng K S))&&q_ n 1000000) (Q (AV.bK [g_ (ju {nw:=q.nw,C:=bG (au q.C),ng:=q.ng,G:=λj=>q.G j,a:=q.a,fl:=q.fl,nu:=q.nu,de:=q.de,top:=q.top} n (nV (aX q.ng K S))) 9 (aX q.ng (λj=>CZ (aX q.ng K S) (cS {nw:=q.nw,C:=bG (au q.C),ng:=q.ng,G:=λj=>q.G j,a:=q.a,fl:=q.fl,nu:=q.nu,de:=q.de,top:=q.top} n (nV (aX q.ng K S)) j)) λj=>nV (aX q.ng K S) (cS {nw:=q.nw,C:=bG (au q.C),ng:=q.ng,G:=λj=>q.G j,a:=q.a,fl:=q.fl,nu:=q.nu,de:=q.de,top:=q.top} n (nV (aX q.ng K S)) j)),d_ f_ 0])))))))))))))))))))))))):=U
end
end Go.Sx
