/- The proof of a statement of the seat, part 42. -/
import Derived.Test.YtleifmkjbmhlpaaGreatDoorX41
import Derived.Shelf.RegionOpenPlain
import Derived.WalkKit
import Derived.Deep.LoopGhost
import Derived.Deep.Draws
import Derived.Deep.QuietTactic
import Derived.Lib.Walk
import Derived.Test.YtleifmkjbmhlpaaGreatDoorX26
import Derived.Test.YtleifmkjbmhlpaaGreatDoorX34
import Derived.Test.YtleifmkjbmhlpaaGreatDoorX35
set_option linter.all false
set_option linter.defProp false
set_option maxRecDepth 1000000
namespace Go.Sx
open Go
open List renaming length->M,finRange->z,range->c_,getElem?_eq_none->e_,getD_eq_getElem?_getD->o_,length_mergeSort->r_,ext_getElem?->t_,getElem?_map->u_,length_set->v_,all->y_
open AH renaming get_set_same->a_,bk->s_,aL->x_,blank->E_
open AV renaming str->b_,int->d_,ae->g_,bool->w_,le->C_,bx->D_
open Go.IntKind renaming i64->f_
open Nat renaming blt->h_,beq->k_,ble->p_
open Int renaming ofNat->i_
open Option renaming none->j_,some->m_
open Decidable renaming decide->l_
open Classical renaming byContradiction->n_,axiomOfChoice->B_
noncomputable section
def jg(g:Nat)(gs:List bu)(i:Nat):List AV:=[.bW (AG g (aG gs i)) 0]
def GB(g:Nat)(gs:List bu):List (Nat×aae):=[(16,.rows gs.length 1 (jg g gs) (.ty 132))]
def Oy(q:Query)(gs:List bu):St:={t:=Tr.ofList [(6,.own 16 gs.length 1)],nt:=86,H:=hG q 17 (GB q.ng gs),df:=[]}
def wT{q gs c ρ w}(h:Rel c ρ (gk q gs) w):∀j,j<=gs.length->
  ∃ρ' H',Ext ρ ρ'/\Rel c ρ' H' w/\H'.n=17+3*gs.length/\(∀l,l<17->H'.get l=(gk q gs).get l)/\(∀i d,j<=i->i<gs.length->d<3->H'.get (17+3*i+d)=nY (aG gs i) q.ng (17+3*i+d) d)/\∀i,i<j->∀v,VR ρ (.ptr (17+3*i) 0 0 0) v->VR ρ'.bare (.bW (AG q.ng (aG gs i)) 0) v
 |0,_=>⟨ρ,_,Ext.refl ρ,h,rfl,λ_ _=>rfl,λi d _ hi m=>nZ hi m,λi hi=>absurd hi (qx _)⟩
 |j+1,J=>by
  obtain⟨o,H1,s,r1,n1,lo,a,old⟩:=wT h j O;have f:=h.eB 15;rw[Aw]at f;obtain⟨_,_,u,_,_,D,_⟩:=f;have t:VR ρ (.ptr (17+3*j) 0 0 0) (u j):=D j O;have E:=a j 0 (dP _) O O;have t1:=a j 1 (dP _) O O;have t2:=a j 2 (dP _) O O;obtain⟨fn,F⟩:=Tp (H:=H1) (l:=17+3*j) (g:=q.ng) (x:=aG gs j) E t1 t2;obtain⟨p,y,G,C⟩:=F c o w (u j) r1 (VR.ext s _ _ t);refine⟨p,_,s.trans y,G,fn.trans n1,λl hl=>?_,λi d hi r m=>?_,λi hi v k=>?_⟩
  ·rw[s_,if_neg O,s_,if_neg O,s_,if_neg O,lo l hl]
  ·rw[s_,if_neg O,s_,if_neg O,s_,if_neg O,a i d O r m]
  ·by_cases e:i=j
   ·subst e;obtain⟨b,N,a1,rfl⟩:=rl.1 k;obtain⟨K,L,a2,I⟩:=rl.1 t;rw[a1]at a2;cases a2;rw[I]at C;exact C
   ·exact VR.ext y.bare _ _ (old i O v k)
def JC{q gs c ρ w}(H:Rel c ρ (gk q gs) w)(y:c.G=II.G)(K:∀l,c.E l->l<16):
  ∃ρ',jI 17 ρ ρ'/\Rel c ρ' (hG q 17 (GB q.ng gs)) w/\∀a v,C_ (nI (17+3*gs.length)) a a->VR ρ a v->VR ρ' a v:=by
 obtain⟨o,H1,C,r1,n1,lo,_,old⟩:=wT H gs.length (dP _);have nd:∀l,l<15->cK (GB q.ng gs) l= .dead:=λl hl=>by simp only[GB,cK];rw[if_neg O]
 have conv:∀i,i<gs.length->∀v,VR o (.ptr (17+3*i) 0 0 0) v->VR o (.bW (AG q.ng (aG gs i)) 0) v:=λi hi v k=>by have s:=H.eB 15;rw[Aw]at s;obtain⟨_,_,u,_,_,L,_⟩:=s;have I:=L i hi;have:=VR.ext (Ext.rD o) _ _ (old i hi _ I);obtain⟨b,N,a1,rfl⟩:=rl.1 k;obtain⟨Z,N',a2,P⟩:=rl.1 (VR.ext C _ _ I);rw[a1]at a2;cases a2;rw[P]at this;exact this
 have g:∀l,(H1.set 16 (.rows gs.length 1 (jg q.ng gs) (.ty 132))).get l=if l=16 then .rows gs.length 1 (jg q.ng gs) (.ty 132)else H1.get l:=λl=>s_ _ _ _ _
 have m:H1.get 16= .rows gs.length 1 qB (.ty 132):=by rw[lo 16 O,Cq]
 have Q:Rel c o (H1.set 16 (.rows gs.length 1 (jg q.ng gs) (.ty 132))) w:=by
  refine r1.alike A (λl hl=>?_) (λl=>?_) λl=>?_
  ·rw[g];by_cases r:l=16
   ·subst r;rw[if_pos A];rw[m]at hl;refine⟨λ_ _=>rfl,?_⟩;rcases hl.2 with⟨h1,D⟩|⟨bb,N,vs,rest,el,R,h1,D,h3,h4,S⟩
    ·left;refine⟨?_,D⟩;cases T:gs.length with
     |zero=>rfl
     |succ n=>rw[T]at h1;have:=congrArg M h1;rw[bD (n:=n+1) (e:=1) (f:=qB) λ_ _=>rfl]at this;simp at this
    ·right;refine⟨bb,N,vs,rest,el,R,h1,D,h3,?_,S⟩;obtain⟨U,V⟩:=oV (f:=qB) (λ_=>rfl) h4;refine rb U λi hi=>?_
     obtain⟨v,W,X⟩:=V i hi;exact⟨v,W,aV.aM.2 ⟨conv i hi v (aV.aM.1 X).1,zH⟩⟩
   ·rw[if_neg r];exact hl
  ·rw[g];by_cases r:l=16
   ·subst r;rw[if_pos A,m];rfl
   ·rw[if_neg r]
  ·rw[g];by_cases r:l=16
   ·subst r;rw[if_pos A,m];exact⟨(λe=>zG),(λe=>zG)⟩
   ·rw[if_neg r]
 have d:∀l,l<17->nI (17+3*gs.length) l=l:=λl h=>by unfold nI;rw[if_pos h]
 have t:AH.Le 17 (nI (17+3*gs.length)) (H1.set 16 (.rows gs.length 1 (jg q.ng gs) (.ty 132))) (hG q 17 (GB q.ng gs)):=by
  have p:∀l,(hG q 17 (GB q.ng gs)).get l≠ .dead->l<17:=λl F=>Nat.lt_of_not_le λhl=>F (by rw[fC nd,if_neg O,if_neg O];simp only[GB,cK];rw[if_neg O])
  refine⟨dP _,d,λl hl=>?_,λl=>?_,λl J k Y e _=>?_,λl hl=>?_⟩
  ·show H1.n<=_;have hl:17<=l:=hl;unfold nI;rw[if_neg O];omega
  ·rw[fC nd];by_cases h:l<14
   ·refine .inr (.inl ?_);rw[if_pos h,d l O,g,if_neg O,lo l O,nB h];exact Lh (λj hj=>d j O) l
   ·rw[if_neg h];by_cases x:l=14
    ·refine .inr (.inl ?_);subst x;rw[if_pos A,d 14 O,g,if_neg O,lo 14 O,rm];exact⟨kN _ _,rfl⟩
    ·rw[if_neg x];by_cases m:l=16
     ·refine .inr (.inl ?_);subst m;rw[d 16 O,g,if_pos A];exact⟨rfl,rfl,λi hi=>⟨⟨⟨⟨rfl,rfl,λj _=>lG _ _ j⟩,⟨rfl,rfl,λj _=>sn _ _ _ _ j⟩,⟨rfl,rfl,λj _=>lG _ _ j⟩,trivial⟩,rfl⟩,trivial⟩,rfl⟩
     ·refine .inl ?_;simp only[GB,cK];rw[if_neg m]
  ·rw[d l (p l k),d J (p J Y)]at e;exact e
  ·exact n_ λF=>by have:=p l F;have hl:17<=l:=hl;omega
 exact⟨_,(jI.of C).trans (t.ext o),Q.view t (by rw[y];decide) (λl hl=>by have:=K l hl;omega),λa v h k=>VR.le _ _ _ h (VR.ext C _ _ k)⟩
def Tq{ks f key n0 s y}(h:kgx ks f key n0 s y){SB σ}(ht:∀i,cR SB.t i=(cR s.t i).bx σ)(o:SB.nt=s.nt)(k:s.df=[]/\SB.df=[])
  (ro) (n) (c) (ρ) (a) (w) (q:ro=j_) (hG:c.G=II.G) (E:Sub c.G σ s.H SB.H) (m:cL c ρ SB a w):
  (az II f key).wpIn (WF ro) n PP (λx a1 C=>x= .exit 0/\∃d l,St.Le n0 d y/\cL (c.jt ρ s.H SB.H σ w) l d a1 C) a w:=by
 obtain⟨e,j,F⟩:=pN fU ks (aX PP II []) 1000 false _ _ _ h;have u:cL (c.jt ρ s.H SB.H σ w) (ρ.gX σ) s a w:=by
  refine⟨⟨m.tmp.1.trans o,λi=>?_⟩,m.heap.jt E,?_⟩
  ·have:=m.tmp.2 i;rw[ht]at this;exact VR.iI _ _ this
  ·have:=m.df;rw[k.2]at this;rw[k.1];exact this
 have h3:(az II f key).wpIn (WF ro) n PP (e.post (c.jt ρ s.H SB.H σ w) (ρ.gX σ)) a w:=F ro n (c.jt ρ s.H SB.H σ w) (ρ.gX σ) a w (λ_=>q) hG u;refine wpIn_mono h3 λx a1 C D=>?_
 cases e with
 |x b d=>
  cases x with
  |exit id=>
   obtain⟨rfl,l,_,I⟩:=D;obtain⟨rfl,j⟩:=j;obtain⟨k1,_⟩:=oH.ok (K:=True) j
   grind
  |_=>exact D.elim
 |n d=>exact(j:False).elim
 |g b d=>exact(j:False).elim
 |r d=>exact(j:False).elim
 |p v d=>exact(j:False).elim
def Ts{S:Nat->St}{E:aK}{n0 k:Nat}{c:Code}
  (g:∀i,i<k->∀n b ρ a w,b.G=II.G->(∀l,b.E l->l<n0)->cL b ρ (S i) a w->c.wpIn (WF j_) n PP (λx a1 f=>x= .normal/\∃ρ',jI n0 ρ ρ'/\cL b ρ' (S (i+1)) a1 f) a w)
  (last:∀n b ρ a w,b.G=II.G->(∀l,b.E l->l<n0)->cL b ρ (S k) a w->c.wpIn (WF j_) n PP (λx a1 f=>x≠ .normal/\E.lN n0 b ρ x a1 f) a w):
  ∀d i,i+d=k->∀t,t= .inLoop c∨t= .code (.loop c)->∀n b ρ a w,b.G=II.G->(∀l,b.E l->l<n0)->cL b ρ (S i) a w->gE (WF j_) n PP t (E.lN n0 b ρ) a w:=by
 intro d
 induction d with
 |zero=>
  intro i hi t ht n b ρ a w hG h j;have:i=k:=O;subst this;refine oE t ht (wpIn_mono (last n b ρ a w hG h j) λx a1 f e=>?_);obtain⟨hx,e⟩:=e;cases x with
  |normal=>exact absurd A hx
  |_=>exact e
 |succ d m=>intro i hi t ht n b ρ a w hG h j;refine oE t ht (wpIn_mono (g i O n b ρ a w hG h j) λx a1 f e=>?_);obtain⟨rfl,ρ',o,p⟩:=e;exact(m (i+1) O (.inLoop c) (.inl A) n b ρ' a1 f hG h p).mono λx a w e=>aK.jQ o e
def Tt(q)(k)(F)(gs)(n)(c)(ρ)(a)(w)(d:c.G=II.G)(v:∀l,c.E l->l<16)(p:cL c ρ (Li q k F gs k) a w):
  (az II 63 4001).wpIn (WF j_) n PP (λx a1 r=>x≠ .normal/\(aK.x 0 (Oy q gs)).lN 16 c ρ x a1 r) a w:=by
 have b:∀l,l<17->nI (17+3*gs.length) l=l:=λl h=>by unfold nI;rw[if_pos h]
 have f:∀l,17<=l->nI (17+3*gs.length) l=17+3*gs.length+(l-17):=λl h=>by unfold nI;grind
 have nil:∀x,cK [] x= .dead:=λ_=>rfl
 have i:Sub c.G (nI (17+3*gs.length)) (hG q 17 []) (gk q gs):=by rw[d];refine D9 (H:=gk q gs) zC (λ_ _=>rfl) (λ_ _=>rfl) (λl h=>nB h) (rm q gs) (λl h=>b l O) (λl h=>?_) (λl h=>f l h) Y Y;rw[b l h];show l<17+3*gs.length;omega
 have o:EE (nI (17+3*gs.length)) (hG q 17 []) (hG q 17 []) (gk q gs) (gk q gs):=
  {n:=by rfl
   old:=λl y=>i.same l y
   new:=λl hl=>by have hl:17<=l:=hl;rw[f l hl,ic,if_neg O,i.low l hl];rfl
   rest:=λ_ _ _=>rfl}
 have s:∀j,cR (tG k F (.own 16 gs.length 1) (k:Int)) j=(cR (tG k F (.own 16 gs.length 1) (k:Int)) j).bx (nI (17+3*gs.length)):=λj=>vV (b 14 zC) (b 15 zC) (by rfl) j
 refine wpIn_mono (Tq (SB:=Li q k F gs k) (Ov q k F gs.length k (dP _)) s A ⟨rfl,rfl⟩ j_ n c ρ a w A d i p) λx a1 r C=>?_
 obtain⟨rfl,P,D,l1,r1⟩:=C;obtain⟨I,_,J⟩:=r1.view l1 (by show c.G<=17;rw[d];decide) (λl hl=>hl);obtain⟨K,hx,_,m⟩:=sk (SB':=Li q k F gs k) p i J o s rfl ⟨rfl,rfl⟩;obtain⟨g,u,L,N⟩:=JC m.heap d v;refine⟨(λe=>zG),rfl,g,(jI.of hx).trans ⟨λl hl=>u.1 l O,u.fz⟩,⟨m.tmp.1,λj=>?_⟩,L,m.df⟩;have h3:=m.tmp.2 j;show VR g (cR (Tr.ofList [(6,.own 16 gs.length 1)]) j) _;rw[gQ];simp only[vU];by_cases h:j=6
 ·rw[if_pos h];subst h;have e:cR (Li q k F gs k).t 6= .own 16 gs.length 1:=by show cR (tG k F _ _) 6=_;unfold tG;rw[gQ];rfl
  rw[e]at h3;exact N _ _ (show C_ _ (.own 16 gs.length 1) (.own 16 gs.length 1)from⟨(b 16 O).symm,rfl,rfl⟩) h3
 ·rw[if_neg h];simp only[VR]
def Ll:List (Nat×aae):=[(15,.dK 0 (λ_=>[]) (λj=> .ptr (17+3*j) 0 0 0) j_),(16,.rows 0 1 qB (.ty 132))]
def Tu(q:Query)(k:Nat)(F:Nat->ao):St:={t:=tG k F (.own 16 0 1) 0,nt:=86,H:=hG q 17 Ll,df:=[]}
def Tv(q:Query)(k:Nat)(F:Nat -> ao){c:fE}{ρ :Env}{a:Act}{w:World}(f:cL c ρ (Tu q k F) a w)(g:c.G = II.G)(n:∀l,c.E l -> l < 16):∃ρ',jI 16 ρ ρ' /\ cL c ρ' (Li q k F [] 0) a w := by
  have nd:∀l,l < 15 -> cK Ll l = .dead :=λl hl => by simp only[Ll,cK]; grind
  have m:∀l,17<= l -> (gk q []).get l = .dead :=λl hl => Ax (by simpa using hl)
  have b:AH.Le 16 (λl => l) (hG q 17 Ll) (gk q []) := by
   refine⟨(by decide :16<= 17),λ_ _ => rfl,λl hl => hl,λl => ?_,λ_ _ _ _ e _ => e,λl hl => m l hl⟩;rcases Ay 0 l with h|rfl|rfl|rfl|⟨i,d,hi,_⟩|h
   · refine .inr (.inl ?_);rw[fC nd,if_pos h,nB h];exact Lh (λ_ _ => rfl) l
   · refine .inr (.inl ?_);rw[fC nd,if_neg O,if_pos A,rm];exact⟨kN _ _,rfl⟩
   · refine .inr (.inl ?_);rw[fC nd,if_neg O,if_neg O,Aw];exact⟨rfl,λ_ h => absurd h (qx _),λ_ h => absurd h (qx _),λ_ _ e => zG⟩
   · refine .inr (.inl ?_);rw[fC nd,if_neg O,if_neg O,Cq];exact⟨rfl,rfl,O,rfl⟩
   · omega
   · grind
  refine⟨_,b.ext ρ,⟨f.tmp.1,λj => VR.le _ _ _ ?_ (f.tmp.2 j)⟩,f.heap.view b (by rw[g]; decide) n,f.df⟩;exact Tl A A (show C_ _ (.own 16 0 1) (.own 16 0 1)from⟨rfl,rfl,rfl⟩) j
def GC(q)(k)(F)(o:k<=1000000)(p:dl q=true)(r:∀i,i<k->bE (F i)=true):ay PP II false (az II 63 4001) 16 (Tu q k F) (.one (.x 0 (Oy q (bI q F k)))) where
 h s0 f s:=by
  intro ro n e ρ a w g hG b;cases g rfl;have d:∀l,e.E l->l<16:=λl hl=>by have:=(b.heap.env l hl).1;omega
  obtain⟨t,u,r1⟩:=b.view s (by rw[hG];decide) d;obtain⟨j,v,y⟩:=Tv q k F r1 hG d;have:=Ts (S:=λi=>Li q k F (bI q F i) i) (E:=.x 0 (Oy q (bI q F k))) (n0:=16) (k:=k) (c:=az II 63 4001) (λi hi n e ρ a w hG d b=>Ou q k F i hi o p (r i hi) j_ n e ρ a w A hG d b) (λn e ρ a w hG d b=>Tt q k F _ n e ρ a w hG d b) k 0 O _ (.inr A) n e j a w hG d y;refine this.mono λx a w m=>?_
  have m:=aK.jQ (u.trans v) m;exact aK.pM b.heap f.symm m
section
open Go.Proofs Go.Sort Go.Shelf Go.RowKit Go.Lib
def ca(a b:Nat->Int):Nat->Nat->Int
 |0,_=>0
 |d+1,k=>if Lib.compareInt (a k) (b k)=0 then ca a b d (k+1)else Lib.compareInt (a k) (b k)
set_option maxHeartbeats 4000000 in
def JD(b1 o1 c b2 o2 d n:Nat)(xs ys:Nat->Int)(w:World)(hn:n<=9)(hc1:∀j,j<n->w.cell? ⟨b1,o1+j,j_⟩=m_ (.int f_ (xs j)))(hc2:∀j,j<n->w.cell? ⟨b2,o2+j,j_⟩=m_ (.int f_ (ys j))):
  Calls Tryz.prog 104 #[.slice (m_ ⟨b1,o1,j_⟩) n c,.slice (m_ ⟨b2,o2,j_⟩) n d] w λe w'=>e= .returned (.int f_ (ca xs ys n 0))/\w'=w:=by
 go_enter Tryz.func104,Tryz.ntmps104
 go_wp2
 go_loopg [11] n (λg s wr=> ∃k:Nat,k<=n/\n-k<=g/\s= .int f_ k/\wr=w/\ca xs ys n 0=ca xs ys (n-k) k)
 case atStart=>exact⟨0,Nat.zero_le _,O,rfl,rfl,rfl⟩
 case round=>
  obtain⟨k,hk,hg,rfl,rfl,heq⟩:=hrel;by_cases hlt:k<n
  ·have g1:=hc1 k hlt;have g2:=hc2 k hlt;have hcon:=AnyG.cmp_Compare_int Tryz.zl (xs k) (ys k) wr;change Calls Tryz.prog 110 _ _ _ at hcon;have e1:ca xs ys (n-k) k=if Lib.compareInt (xs k) (ys k)=0 then ca xs ys (n-(k+1)) (k+1)else Lib.compareInt (xs k) (ys k):=by
    rw[show n-k=(n-(k+1))+1 by omega];rfl
   rw[e1]at heq;have a:Aside (ca xs ys n 0=if Lib.compareInt (xs k) (ys k)=0 then ca xs ys (n-(k+1)) (k+1)else Lib.compareInt (xs k) (ys k)):=heq;clear heq e1 hc1 hc2;generalize hxk:xs k=x at g1 hcon;generalize hyk:ys k=y at g2 hcon;have b:Aside (xs k=x/\ys k=y):=⟨hxk,hyk⟩;clear hxk hyk;generalize hr:Lib.compareInt x y=r at hcon;have D:Aside (Lib.compareInt x y=r):=hr;clear hr;by_cases hz:r=0
   ·subst hz
    go_wp2_with (go_at_call 110;refine hcon.mono ?_;rintro e w' ⟨rfl,rfl⟩)
    go_roundg (n-(k+1))
    case measure=>omega
    case rel=>refine⟨k+1,O,O,by go_num,rfl,?_⟩;have:=a.out;rw[b.out.1,b.out.2,D.out,if_pos A]at this;exact this
   ·go_wp2_with (go_at_call 110;refine hcon.mono ?_;rintro e w' ⟨rfl,rfl⟩)
    go_ret
    refine⟨?_,rfl⟩;have:=a.out;rw[b.out.1,b.out.2,D.out,if_neg hz]at this;rw[this];rfl
  ·have:k=n:=by omega
   subst this;clear hc1 hc2
   go_wp2
   go_ret
   refine⟨?_,rfl⟩;rw[heq,Nat.sub_self];rfl
set_option maxHeartbeats 4000000 in
def xh(a1 a2:Option Addr)(c d:Nat)(w:World):Calls Tryz.prog 104 #[.slice a1 0 c,.slice a2 0 d] w λe w'=>e= .returned (.int f_ 0)/\w'=w:=by
 go_enter Tryz.func104,Tryz.ntmps104
 go_wp2
 go_loopg [11] 0 (λ_ s wr=>s= .int f_ 0/\wr=w)
 case atStart=>exact⟨rfl,rfl⟩
 case round=>
  obtain⟨rfl,rfl⟩:=hrel
  go_wp2
  go_ret
  exact⟨rfl,rfl⟩
set_option maxHeartbeats 4000000 in
def JE(b c d f n c1 c2:Nat)(a1 a2:Option Addr)(r:Int)(W:World)(h:W.cell? ⟨b,c,j_⟩=m_ (.slice a1 n c1))(i:W.cell? ⟨d,f,j_⟩=m_ (.slice a2 n c2))
  (g:∀a,(∃q,a=W.drewN q)->Calls Tryz.prog 104 #[.slice a1 n c1,.slice a2 n c2] a λe w'=>e= .returned (.int f_ r)/\w'=a):
  Calls Tryz.prog 103 #[.pointer (m_ ⟨b,c,j_⟩),.pointer (m_ ⟨d,f,j_⟩)] W λe w'=>e= .returned (.int f_ r)/\∃q,w'=W.drewN q:=by
 go_enter Tryz.func103,Tryz.ntmps103
 go_wp2
 go_quiet (first|(go_at_call 104;refine Calls.quiet_of_same (g _ ⟨_,rfl⟩)))
 go_wp2
 go_ret
 exact⟨rfl,_,rfl⟩
end
section
open Go.Proofs Go.Sort Go.Shelf Go.RowKit Go.Lib
def Wi(x y):(Lib.compareInt x y<0)↔x<y:=by
 unfold Lib.compareInt;by_cases h1:x<y
 ·simp[h1]
 ·by_cases a:y<x<;>simp[h1,a]
def Lm(x y):(Lib.compareInt x y=0)↔x=y:=by
 unfold Lib.compareInt;by_cases h1:x<y
 ·simp[h1];omega
 ·by_cases a:y<x
  ·simp[h1,a];omega
  ·simp[h1,a];omega
def mg(xs a)(d k):(ca xs a (d+1) k<0)↔(xs k<a k∨(xs k=a k/\ca xs a d (k+1)<0)):=by
 show((if Lib.compareInt (xs k) (a k)=0 then ca xs a d (k+1)else Lib.compareInt (xs k) (a k))<0)↔_;by_cases h:xs k=a k
 ·rw[if_pos ((Lm _ _).2 h)];constructor
  ·exactλe=> .inr ⟨h,e⟩
  ·rintro(e|⟨_,e⟩)
   ·omega
   ·exact e
 ·rw[if_neg (λe=>h ((Lm _ _).1 e)),Wi];constructor
  ·exact .inl
  ·rintro(e|⟨e,_⟩)
   ·exact e
   ·exact absurd e h
def GD(xs):∀d k,¬ ca xs xs d k<0
 |0,k=>by show¬ (0:Int)<0;omega
 |d+1,k=>by
  rw[mg]
  rintro(e|⟨_,e⟩)
  ·omega
  ·exact GD xs d _ e
def AI(xs a zs):∀d k,ca xs a d k<0->ca a zs d k<0->ca xs zs d k<0
 |0,k=>λh=>by have h:(0:Int)<0:=h;omega
 |d+1,k=>by
  rw[mg,mg,mg]
  rintro(e|⟨e,b⟩) (f|⟨f,c⟩)
  ·left;omega
  ·left;omega
  ·left;omega
  ·exact .inr ⟨O,AI xs a zs d _ b c⟩
def wU(xs c zs):∀d k,¬ ca xs c d k<0->¬ ca c zs d k<0->¬ ca xs zs d k<0
 |0,k=>λ_ _=>by show¬ (0:Int)<0;omega
 |d+1,k=>by
  rw[mg,mg,mg];intro g h
  rintro(e|⟨e,i⟩)
  ·by_cases a:xs k<c k
   ·exact g (.inl a)
   ·exact h (.inl O)
  ·by_cases a:xs k=c k
   ·exact wU xs c zs d _ (λf=>g (.inr ⟨a,f⟩)) (λf=>h (.inr ⟨O,f⟩)) i
   ·by_cases b:xs k<c k
    ·exact g (.inl b)
    ·exact h (.inl O)
def GF(xs c):∀d k,¬ ca xs c d k<0->¬ ca c xs d k<0->∀j,j<d->xs (k+j)=c (k+j)
 |0,k=>λ_ _ j g=>absurd g (qx _)
 |d+1,k=>by
  rw[mg,mg];intro h i j g;have e:xs k=c k:=by
   by_cases a:xs k<c k
   ·exact absurd (.inl a) h
   ·by_cases b:c k<xs k
    ·exact absurd (.inl b) i
    ·omega
  cases j with
  |zero=>exact e
  |succ j=>
   have:=GF xs c d (k+1) (λf=>h (.inr ⟨e,f⟩)) (λf=>i (.inr ⟨e.symm,f⟩)) j O
   rwa[show k+(j+1)=k+1+j by omega]
def gd(a:List AV):Nat->Int:=match a with
 |[.bW (.ae _ _ f::_) _]=>a8 f
 |_=>λ_=>0
def vY(g:Nat)(a:List AV):Bool:=match a with
 |[.bW (.ae m 1 f::_) 0]=>k_ m g&&bN g f
 |_=>false
def Ec(g:Nat)(x y:Nat->Int):Bool:=(c_ g).all λk=>x k==y k
def so(g n:Nat)(R:Nat->List AV):Bool:=(c_ n).all λi=>vY g (R i)&&(c_ n).all λj=>k_ i j || !Ec g (gd (R i)) (gd (R j))
def AJ(a:List AV):AV:=match a with
 |x::_=>x
 |[]=> .any
def n9(g n:Nat)(R:Nat->List AV):List Nat:=(c_ n).mergeSort λx y=>!decide (ca (gd (R y)) (gd (R x)) g 0<0)
def qu(g n:Nat)(R:Nat->List AV)(i:Nat):List AV:=[AJ (R ((n9 g n R).getD i 0))]
def Rel.Ze{c ρ H w l n e f g a}(h:Rel c ρ H w)(hl:H.get l= .rows n e f a)(b:∀i,i<n->f i=g i):Rel c ρ (H.set l (.rows n e g a)) w:=by
 have m:rowsOf n f=rowsOf n g:=nV b;have k:∀j,j≠l->(H.set l (.rows n e g a)).get j=H.get j:=λj e=>x_ _ _ (λo=>e o.symm)
 refine h.alike A (λj d=>?_) (λj=>?_) (λj=>?_)
 ·by_cases e:j=l
  ·subst e;rw[a_];rw[hl]at d;exact⟨λi hi=>by rw[<-b i hi];exact d.1 i hi,by have:=d.2;rwa[m]at this⟩
  ·rw[k j e];exact d
 ·by_cases e:j=l
  ·subst e;rw[a_,hl];rfl
  ·rw[k j e]
 ·by_cases e:j=l
  ·subst e;rw[a_,hl];exact⟨(λe=>zG),(λe=>zG)⟩
  ·rw[k j e]
def Ln{c ρ H W}(e:Rel c ρ H W){b o vs}(h:tI ρ b o vs){j v}(d:vs[j]? =m_ v):W.cell? ⟨b,o+j,j_⟩=m_ v:=by
 obtain⟨_,pre,rest,rfl,f⟩:=h;obtain⟨el,g,h3⟩:=e.sY _ _ f;have a:j<vs.length:=(List.getElem?_eq_some_iff.1 d).1;unfold World.cell?;rw[h3];show(pre++vs++rest).toArray[pre.length+j]? =m_ v;rw[List.getElem?_toArray,List.append_assoc,List.getElem?_append_right O,Nat.add_sub_cancel_left,List.getElem?_append_left a];exact d
def Cs{c ρ H W}(s:Rel c ρ H W){g a}(k:vY g a=true){v}(y:aV ρ a [v]):
  ∃p q l n,v= .pointer (m_ ⟨p,q,j_⟩)/\W.cell? ⟨p,q,j_⟩=m_ (.slice l g n)/\(0<g->∃b o,l=m_ ⟨b,o,j_⟩/\∀j,j<g->W.cell? ⟨b,o+j,j_⟩=m_ (.int f_ (gd a j))):=by
 unfold vY at k;split at k
 ·rename_i m f cs;simp only[ba]at k;obtain⟨k1,k2⟩:=k;cases dV k1;obtain⟨p,o,us,rfl,C,D⟩:=(aV.aM.1 y).1;obtain⟨u,E,rfl,h3,_⟩:=D;have t:=Ln s C (j:=0) A;have hi:=oU k2;rcases h3 with⟨F,rfl⟩|⟨b,G,n,l,I,rfl,_,h4⟩
  ·exact⟨p,o,j_,0,rfl,by rw[F];exact t,λh=>absurd h O⟩
  ·refine⟨p,o,m_ l,n,rfl,t,λh=>?_⟩;obtain⟨rfl,J,w⟩:=h4 h;refine⟨b,G,rfl,λj r=>?_⟩;have x:=J.row (λi hi=>(w i hi).1) r;obtain⟨l1,l2⟩:=w j r;rw[hi j r]at l2;obtain⟨d,zs,e,K,_⟩:=l2;rw[Nat.mul_one]at x;have:=Ln s (ρ:=ρ) x (j:=0) (v:=d) (by rw[e];rfl);rw[Nat.add_zero]at this;rw[this];exact congrArg m_ K
 ·cases k
end
section
open Go.Proofs Go.Sort Go.Shelf Go.RowKit Go.Lib
def uT{g n R}(h:so g n R=true){i}(hi:i<n):vY g (R i)=true/\∀j,j<n->i≠j->Ec g (gd (R i)) (gd (R j))=false:=by
 have:=List.all_eq_true.1 h i (List.mem_range.2 hi);simp only[ba]at this;refine⟨this.1,λj a b=>?_⟩;have k:=List.all_eq_true.1 this.2 j (List.mem_range.2 a);simp_all
def Oz{g a}(h:vY g a=true):a=[AJ a]:=by
 unfold vY at h;split at h
 ·rfl
 ·cases h
def JF{l:Nat}{H:AH}:af PP II 102 [.own l 0 1,.fn 103 [] []] H (.ret (.bM []) H):=by
 intro c ρ w vs hG a d;obtain⟨u,us,rfl,f,g,h,rfl,i,rfl⟩:=a;have hx:∃p cap,u= .slice p 0 cap:=by
  rcases f with⟨_,rfl⟩|⟨b,N,c,_,rfl,_⟩
  ·exact⟨_,_,rfl⟩
  ·exact⟨_,_,rfl⟩
 obtain⟨p,cap,rfl⟩:=hx;have L:=Tryz.Ca;have:=AnyF.slices_SortFunc_none (P:=Tryz.prog) (ρ:=Tryz.sP) {L with} p cap g w;change Calls Tryz.prog 102 _ _ _ at this;refine .inl ⟨by rfl,this.mono ?_⟩
 rintro e w' ⟨rfl,rfl⟩
 exact⟨ρ,Ext.refl ρ,d,[],rfl,rfl⟩
def Tw(g n)(R):(n9 g n R).length=n:=by unfold n9;simp
def Wj(g n)(R){i}(hi:i<n):(n9 g n R).getD i 0<n:=by
 have hl:=Tw g n R;rw[o_,oa O];have:(n9 g n R)[i]'O∈n9 g n R:=List.getElem_mem _;unfold n9 at this;rw[List.mem_mergeSort]at this;exact List.mem_range.1 this
set_option maxHeartbeats 1000000 in
def JG{g n l:Nat}{R:Nat->List AV}{H:AH}(hl:H.get l= .rows n 1 R (.ty 132))(h0:0<n)(hg:g<=9)(hn:n<4611686018427387904)(J:so g n R=true):
  af PP II 102 [.own l n 1,.fn 103 [] []] H (.ret (.bM []) (H.set l (.rows n 1 (qu g n R) (.ty 132)))):=by
 intro c ρ w vs hG hv hr;obtain⟨u,us,rfl,K,u2,a6,rfl,e2,rfl⟩:=hv;obtain⟨z1,z2,rfl,P,Q⟩:=e2;cases P;cases Q;rcases K with⟨e,_⟩|⟨b,N,cap,hb,rfl,a7,bd⟩
 ·omega
 have t:∀i,i<n->R i=[AJ (R i)]:=λi hi=>Oz (uT J hi).1
 have S:Rel c ρ (H.set l (.rows n 1 (λi=>[AJ (R i)]) (.ty 132))) w:=hr.Ze hl t;obtain⟨T,V,g1,g2,g3,g4⟩:=S.KZ (l:=l) (n:=n) (R:=λi=>[AJ (R i)]) (a_ _ _ _) hb λ_=>rfl
 haveI:Inhabited (Fin n):=⟨⟨0,h0⟩⟩
 have hx:∀x:Fin n,∃v,V[x.1]? =m_ v:=λx=>⟨V[x.1]'O,oa _⟩
 obtain⟨enc,o⟩:=B_ hx;have C:∀x,(enc x).oneCell'=true:=λx=>g3 _ (List.mem_of_getElem? (o x))
 have j:∀x:Fin n,aV ρ [AJ (R x)] [enc x]:=λx=>by obtain⟨v,k1,k2⟩:=g2 x x.2;have:=o x;rw[k1]at this;cases this;exact k2
 have hd:((z n).toArray).toList.map enc=V:=by
  apply t_;intro i;by_cases hi:i<n
  ·have:=o ⟨i,hi⟩;rw[this];simp[hi]
  ·rw[e_ zJ,e_ O]
 obtain⟨hH,p⟩:=g4 enc (z n).toArray hd;have D:(z n).toArray.size=n:=zA;have hO:SWO (ltOf λx y:Fin n=>ca (gd (R x)) (gd (R y)) g 0):=
  {irrefl:=λx=>nJ (GD _ g 0)
   trans:=λx y d F G=>bK (AI _ _ _ g 0 (py F) (py G))
   ntrans:=λx y d F G=>nJ (wU _ _ _ g 0 (of_decide_eq_false F) (of_decide_eq_false G))}
 have hT:∀x y:Fin n,(ltOf λx y:Fin n=>ca (gd (R x)) (gd (R y)) g 0) x y=false->(ltOf λx y:Fin n=>ca (gd (R x)) (gd (R y)) g 0) y x=false->x=y:=λx y F G=>n_ λW=>by
  have h3:=(uT J x.2).2 y y.2 (λe=>W (Fin.ext e));have X:=GF _ _ g 0 (of_decide_eq_false F) (of_decide_eq_false G);have h4:Ec g (gd (R x)) (gd (R y))=true:=List.all_eq_true.2 λk hk=>by have:=X k (List.mem_range.1 hk);rw[Nat.zero_add]at this;rw[this];exact beq_self_eq_true _
  rw[h3]at h4;cases h4
 have I:CmpReads Tryz.prog 103 #[] enc (λx y:Fin n=>ca (gd (R x)) (gd (R y)) g 0) b 0 (z n).toArray.size w:=λm os Y Z x y=>by
  rw[D]at Z;have hW:=p Y (λi=>[AJ (R (if h:i<n then(Y[i]'O).1 else 0))]) m os Z C (λ_=>rfl) λi hi=>⟨enc (Y[i]'O),by simp[Z,hi],by simp only[hi,dif_pos];exact j _⟩
  obtain⟨p1,q1,a1,c1,k1,k2,k3⟩:=Cs hW (uT J x.2).1 (v:=enc x) (by rw[t x x.2];exact j x);obtain⟨p2,q2,a2,c2,m1,m2,m3⟩:=Cs hW (uT J y.2).1 (v:=enc y) (by rw[t y y.2];exact j y);rw[k1,m1];refine JE p1 q1 p2 q2 g c1 c2 a1 a2 _ _ k2 m2 λW' hq=>?_
  obtain⟨q,rfl⟩:=hq;by_cases aa:g=0
  ·subst aa;exact xh a1 a2 c1 c2 _
  ·obtain⟨b1,o1,rfl,r1⟩:=k3 O;obtain⟨b2,o2,rfl,r2⟩:=m3 O;exact JD b1 o1 c1 b2 o2 c2 g _ _ _ hg r1 r2
 have eg:∀args w,(callFunc 103 args).run Tryz.prog w= .ok (.enter 103 args) w:=enters_of Tryz.func103 U A;have:=Any.slices_SortFunc_total Tryz.Ca enc C (λx y:Fin n=>ca (gd (R x)) (gd (R y)) g 0) hO 103 #[] b 0 cap (z n).toArray w eg I.lays hH T (by rw[D];exact hn) hT;change Calls Tryz.prog 102 _ _ _ at this;rw[D]at this;refine .inl ⟨enters_of Tryz.func102 U A _ w,this.mono ?_⟩
 rintro e w' ⟨rfl,k,os,rfl⟩
 have E:((z n).mergeSort λx y=>!(ltOf λx y:Fin n=>ca (gd (R x)) (gd (R y)) g 0) y x).map Fin.val=n9 g n R:=by
  refine(List.map_mergeSort (f:=Fin.val) (r:=λx y:Fin n=>!(ltOf λx y:Fin n=>ca (gd (R x)) (gd (R y)) g 0) y x) (s:=λx y=>!decide (ca (gd (R y)) (gd (R x)) g 0<0)) (l:=z n) (λa _ b _=>rfl)).trans ?_;unfold n9;congr 1;apply t_;intro i;by_cases hi:i<n
  ·simp[hi]
  ·rw[e_ zJ,e_ zJ]
 have ad:=p ((z n).mergeSort λx y=>!(ltOf λx y:Fin n=>ca (gd (R x)) (gd (R y)) g 0) y x).toArray (qu g n R) k os (by simp[r_]) C (λ_=>rfl) λi hi=>by
  have ap:((z n).mergeSort λx y=>!(ltOf λx y:Fin n=>ca (gd (R x)) (gd (R y)) g 0) y x).length=n:=by rw[r_];simp
  have K:=oa (l:=(z n).mergeSort λx y=>!(ltOf λx y:Fin n=>ca (gd (R x)) (gd (R y)) g 0) y x) (i:=i) O;refine⟨enc (((z n).mergeSort λx y=>!(ltOf λx y:Fin n=>ca (gd (R x)) (gd (R y)) g 0) y x)[i]'O),?_,?_⟩
  ·rw[u_];show Option.map enc (List.toArray _).toList[i]? =_;rw[List.toList_toArray,K];rfl
  ·unfold qu;have:(n9 g n R).getD i 0=(((z n).mergeSort λx y=>!(ltOf λx y:Fin n=>ca (gd (R x)) (gd (R y)) g 0) y x)[i]'O).1:=by
    rw[<-E,o_,u_,K];rfl
   rw[this];exact j _
 refine⟨ρ,Ext.refl ρ,ad.congr A λi=>?_,[],rfl,rfl⟩;by_cases L:i=l
 ·subst L;rw[a_,a_]
 ·rw[x_ _ _ (λd=>L d.symm),x_ _ _ (λd=>L d.symm),x_ _ _ (λd=>L d.symm)]
def Tx(g:Nat):ax PP II where
 f:=102
 spec X args H a _:=match args with
  |[.own l n 1,.fn 103 [] []]=>match H.get l with
   | .rows m 1 R (.ty 132)=>X.ag (k_ n m&&p_ g 9&&h_ n 4611686018427387904&&so g n R) (a (.bM []) (H.set l (.rows n 1 (qu g n R) (.ty 132))))
   |_=>X.fail
  |_=>X.fail
 ok X sem hX args H a kp h:=by
  split at h
  ·rename_i l n;split at h
   ·rename_i m R hl;obtain⟨b,d⟩:=hX.ag _ _ h;simp only[ba,Nat.blt_eq]at b;obtain⟨⟨⟨a1,a2⟩,e⟩,a4⟩:=b;cases dV a1;refine⟨.ret _ _,d,?_⟩;by_cases i:n=0
    ·subst i;intro c ρ w vs hG j k;exact JF c ρ w vs hG j (k.SJ hl)
    ·exact JG hl O (by simp_all) e a4
   ·exact zR
  ·exact zR
end
def OA(q)(k)(F)(gs)(Q):(kq [Tx q.ng] [(4001,16,Tu q k F,.one (.x 0 (Oy q gs)))] 63 [.agg (aZ q),cZ k F] Q)=(ay PP II false (az II 63 4001) 16 (Tu q k F) (GE.one (aK.x 0 (Oy q gs)))/\zyN q.nw (zyR q.nw (av q.C) (zyN q.ng (zyR q.ng (aN q.G) (zyI q.a (zyI q.fl (zyB q.nu (zyB q.de (zyI q.top (zyB [48] (zyB [49] (zyR 5 aC (zyN k ((an k (λi=>aB (F i)) λi=>aB (F i))/\zyI (i_ k) (B (k_ (M gs) (M gs)&&p_ q.ng 9&&h_ (M gs) 4611686018427387904&&so q.ng (M gs) (jg q.ng gs)) (B ((y_ (c_ (M gs)) λi=>bj.free (qu q.ng (M gs) (jg q.ng gs) i))&&l_ (M gs<=M gs)) (Q (g_ (M gs) 1 (qu q.ng (M gs) (jg q.ng gs)))))))))))))))))))):=U
structure AK (b:Query) (gs:List bu):Prop where
 key:∀a,a<gs.length->(aG gs a).key=[bif h_ 0 b.ng then(aG gs a).W 0 else 0,bif h_ 1 b.ng then(aG gs a).W 1 else 0,bif h_ 2 b.ng then(aG gs a).W 2 else 0]
 apart:∀i a,i<gs.length->a<gs.length->i≠a->(aG gs i).key≠(aG gs a).key
def Ct(q)(F):∀i,AK q (bI q F i)
 |0=>⟨λj c=>absurd c (by simp[bI]),λi j hi=>absurd hi (by simp[bI])⟩
 |i+1=>by
  obtain⟨f,g⟩:=Ct q F i;show AK q (lH q (bI q F i) i (F i));unfold lH;cases gn q (F i)with
  |false=>exact⟨f,g⟩
  |true=>
   simp only[cond_true];split
   ·rename_i j c;obtain⟨c,_⟩:=qi c;refine⟨λl hl=>?_,λa b ha d e=>?_⟩
    ·rw[v_]at hl;rw[iR c]
     grind
    ·rw[v_]at ha d;rw[iR c,iR c]
     grind
   ·rename_i k;have no:=AF k;refine⟨λl hl=>?_,λa b ha d e=>?_⟩
    ·rw[iS];by_cases h:l=(bI q F i).length
     ·rw[if_pos h];rfl
     grind
    ·simp only[List.length_append,List.length_cons,List.length_nil]at ha d;rw[iS,iS]
     grind
def GG(n)(W):bN n (ah W)=true:=List.all_eq_true.2 λ_ _=>rfl
def Ty{q gs}(h:AK q gs)(f:q.ng<=3):so q.ng gs.length (jg q.ng gs)=true:=by
 refine List.all_eq_true.2 λi hi=>?_
 have hi:=List.mem_range.1 hi;rw[ba];refine⟨?_,List.all_eq_true.2 λj c=>?_⟩
 ·show(k_ q.ng q.ng&&bN q.ng (ah _))=true;rw[qy,GG];rfl
 ·have c:=List.mem_range.1 c;by_cases e:i=j;simp_all
  ·rw[tE e,Bool.false_or,Bool.not_eq_true'];cases he:Ec q.ng (gd (jg q.ng gs i)) (gd (jg q.ng gs j))with
   |false=>rfl
   |true=>
    refine absurd ?_ (h.apart i j hi c e);have a:∀k,k<q.ng->(aG gs i).W k=(aG gs j).W k:=λk d=>by have:=List.all_eq_true.1 he k (List.mem_range.2 d);have:=eq_of_beq this;exact this
    rw[h.key i hi,h.key j c];have b:∀k,(bif h_ k q.ng then(aG gs i).W k else 0)=bif h_ k q.ng then(aG gs j).W k else 0:=λk=>by
     cases g:h_ k q.ng with
     |true=>simp_all
     |false=>rfl
    rw[b 0,b 1,b 2]
def GH(q:Query)(gs:List bu):AV:=.ae gs.length 1 (qu q.ng gs.length (jg q.ng gs))
def JH(g n)(gs):((c_ n).all λi=>bj.free (qu g n (jg g gs) i))=true:=List.all_eq_true.2 λi _=>rfl
def AL(g n)(gs):an n (qu g n (jg g gs)) (qu g n (jg g gs)):=λi _ σ=>⟨⟨⟨⟨rfl,rfl,λj _=>lG _ _ j⟩,⟨rfl,rfl,λj _=>sn _ _ _ _ j⟩,⟨rfl,rfl,λj _=>lG _ _ j⟩,trivial⟩,rfl⟩,trivial⟩
def OB{q k F}(b:dl q=true)(d:k<=1000000)(e:∀i,i<k->bE (F i)=true):af PP II 63 [.agg (aZ q),cZ k F] HR (.ret (GH q (bI q F k)) HR):=by
 refine wH (ks:=[Tx q.ng]) (T:=[(4001,16,Tu q k F,.one (.x 0 (Oy q (bI q F k))))]) ?_;rw[OA];have a:=ng3 b;have c:=(ru q F k).len;have fl:=nA k F;have a1:(k_ (bI q F k).length (bI q F k).length&&p_ q.ng 9&&h_ (bI q F k).length 4611686018427387904&&so q.ng (bI q F k).length (jg q.ng (bI q F k)))=true:=by rw[qy,il O,gj O,Ty (Ct q F k) a];rfl
 have a2:=JH q.ng (bI q F k).length (bI q F k);refine⟨GC q k F d b e,?_⟩
 repeat' (first|with_reducible refine aag A ?_|with_reducible refine aan A ?_|with_reducible refine aaY A ?_|with_reducible refine And.intro ?_ ?_|with_reducible exact cM _ _|with_reducible exact dJ _ _|with_reducible exact bV|with_reducible exact fl|with_reducible exact trivial|with_reducible refine ZE _ _ a1 ?_|exact ZE _ _ (by rw[a2];simp) (λσ=>⟨rfl,rfl,λi hi=>AL _ _ _ i hi σ⟩))
def pw(k:Nat)(f:Nat->List AV):Bool:=du k f&&(c_ k).all λi=>bE (bS f i)
def GI(q:Query):ax PP II:=ax.I8 63
 (λX args a=>match args with
  |[.agg cs,.ae k 10 f]=>X.ag (sE q cs&&dl q&&p_ k 1000000&&pw k f) (a (GH q (bI q (bS f) k)))
  |_=>X.fail)
 λX sem hX args a h=>by
  split at h
  ·rename_i cs k f;obtain⟨b,c⟩:=hX.ag _ _ h;simp only[ba]at b;obtain⟨⟨⟨a1,a2⟩,d⟩,a4⟩:=b;obtain⟨l1,l2⟩:=ot a1;unfold pw at a4;simp only[ba]at a4;refine⟨_,c,λ_=>rfl,λσ=>?_,af.iM (OB a2 (by simp_all) (by simp_all)) l1 (jK a4.1)⟩;show [D_ σ (.agg _),_]=_;rw[l2];rfl
  ·exact zR
def uU(q:Query):ax PP II:=ax.I8 64
 (λX args a=>match args with
  |[.agg cs,.ae k 3 r]=>X.ag (sE q cs&&dl q&&oY k r&&cJ k (nr r)&&cJ k (ns r)) (a (Gi q k (nr r) (ns r) (ny r)))
  |_=>X.fail)
 λX sem hX args a h=>by
  split at h
  ·obtain⟨b,c⟩:=hX.ag _ _ h;simp only[ba]at b;obtain⟨⟨⟨⟨a1,a2⟩,d⟩,a4⟩,e⟩:=b;obtain⟨r1,f,g⟩:=iQ a2;obtain⟨l1,l2⟩:=ot a1;refine⟨_,c,λ_=>rfl,λσ=>?_,af.iM (N1 r1 f g a4 e) l1 (rf d)⟩;show [D_ σ (.agg _),_]=_;rw[l2];rfl
  ·exact zR
def kc.two{x a a' H H'}(h:kc a H a' H')(hx:x.free=true):vq [x,a] H [x,a'] H':=⟨h.1,λc ρ w vs f i=>by
 obtain⟨u,us,rfl,j,b,l,rfl,m,rfl⟩:=i;obtain⟨ρ',d,o,h3⟩:=h.2 c ρ w b f m;exact⟨ρ',d,o,u,[b],rfl,VR.ext d.bare _ _ (VR.free _ _ hx j),b,[],rfl,h3,rfl⟩⟩
def Xg:ax PP II where
 f:=65
 spec X args H a kp:=match args with
  |[.agg cs,.own l m 9]=>match H.get l with
   | .rows n 9 r (.ty 79)=>X.ag (k_ n m&&bj.free cs&&(c_ n).all λi=>bj.free (r i)) (aaF.spec X [.agg cs,.ae m 9 r] (H.set l (.rows n 9 r .ro)) a kp)
   |_=>X.fail
  |_=>X.fail
 ok X sem hX args H a kp h:=by
  split at h
  ·rename_i cs l m;split at h
   ·rename_i n r hl;obtain⟨b,c⟩:=hX.ag _ _ h;simp only[ba]at b;obtain⟨⟨a1,a2⟩,g⟩:=b;cases dV a1;obtain⟨o,k1,k2⟩:=aaF.ok X sem hX _ _ _ _ c;refine⟨o,k1,af.pO (kc.two ?_ zI) k2⟩;have d:od H l=m_ (H.set l (.rows m 9 r .ro)):=by unfold od;rw[hl]
    have:tK RI.l3 (0+1) (.own l m 9) H (λa' H'=>a'= .ae m 9 r/\H'=H.set l (.rows m 9 r .ro)):=by rw[Eb RI.l3 _ d (a_ _ _ _)];exact ZF Y ⟨rfl,rfl⟩
    obtain⟨a',H',⟨rfl,rfl⟩,e⟩:=lz (sem:=id) RI.dX _ _ H _ this;exact e
   ·exact zR
  ·exact zR
def Tz(q)(Q):(kb [kU] [] 62 [.agg (aZ q)] Q)=(B (ar 3 q.nw (av q.C)&&ar 1 q.ng (aN q.G)) (B (fx {nw:=q.nw,C:=aF (av q.C),ng:=q.ng,G:=λj=>q.G j,a:=q.a,fl:=q.fl,nu:=q.nu,de:=q.de,top:=q.top}) (ak (l_ (q.fl=0)) (Q (w_ true)) (ak (l_ (q.fl=7)) (Q (w_ true)) (ak (l_ (q.fl=8)) (Q (w_ true)) (Q (w_ true))))))):=U
def TA{q}(h:dl q=true):af PP II 62 [.agg (aZ q)] (E_ 12) (.ret (.bool true) (E_ 12)):=by
 obtain⟨a,b,h3⟩:=iQ h;refine bQ (ks:=[kU]) (T:=[]) (λ_=>rfl) ?_;rw[Tz];refine ZE _ _ (by rw[a,b];rfl) (ZE _ _ zI ?_);exact aaz (λ_=>rfl) λ_=>aaz (λ_=>rfl) λ_=>aaz (λ_=>rfl) λ_=>rfl
def Lo(q:Query):ax PP II:=ax.pure 62
 (λX args b=>match args with
  |[.agg cs]=>X.ag (sE q cs&&dl q) (b (.bool true))
  |_=>X.fail)
 λX sem hX args b h=>by
  split at h
  ·obtain⟨a,c⟩:=hX.ag _ _ h;rw[ba]at a;exact⟨_,c,λ_=>rfl,λσ=>by show [D_ σ (.agg _)]=_;rw[(ot a.1).2],(TA a.2).cS ⟨(ot a.1).1,trivial⟩⟩
  ·exact zR
def TB(g:Nat)(X:Nat->bu)(i:Nat):List AV:=[.bW (AG g (X i)) 0]
def xi(q:Query)(gs:List bu)(i:Nat):bu:=aG gs ((n9 q.ng gs.length (jg q.ng gs)).getD i 0)
def mi(X:Nat->bu)(i k:Nat):Int:=(X i).W k
def lI(q:Query)(X:Nat->bu)(i k:Nat):List UInt8:=match k with
 |0=>(jx q (X i).m (X i).L (X i).C).1
 |1=>(jx q (X i).m (X i).L (X i).C).2
 |2=>(jy q (X i).m (X i).G (X i).C).1
 |_=>(jy q (X i).m (X i).G (X i).C).2
def h26(q:Query)(K:Nat->Nat->Int)(S:Nat->Nat->List UInt8)(no:Nat):AH:=hQ 16 [(14,.cells (aZ q) (.ty 34)),(15,.rows no 9 (br q.ng K S) (.ty 79))]
def Wk(q:Query)(n:Nat)(X:Nat->bu)(K:Nat->Nat->Int)(S:Nat->Nat->List UInt8)(N:Int->Nat)(i:Int):St:={t:=Tr.ofList [(2,.ptr 14 0 0 0),(6,.own 15 (N i) 9),(21,.ae n 1 (TB q.ng X)),(22,.int f_ (i_ n)),(23,.int f_ i)],nt:=52,H:=h26 q K S (N i),df:=[]}
def Wl(q:Query)(n:Nat)(K:Nat->Nat->Int)(S:Nat->Nat->List UInt8):GE:=.one (.x 0 {t:=Tr.ofList [(2,.ptr 14 0 0 0),(6,.own 15 n 9)],nt:=52,H:=h26 q K S n,df:=[]})
def GJ(q)(n)(X)(K)(S)(N)(i)(Q):(kr [uU q] [] 26 5001 15 (Wk q n X K S N) (λ_=>Wl q n K S) (λi=>i+1) Q i)=(ak (l_ (i<i_ n)) (B (l_ (0<=i)&&l_ (i<i_ n)) (B (sE q [g_ q.nw 3 (av q.C),g_ q.ng 1 (aN q.G),d_ f_ q.a,d_ f_ q.fl,b_ q.nu,b_ q.de,d_ f_ q.top]&&dl q&&oY (bu.m (X i.toNat)) (bw (bu.L (X i.toNat)) (bu.G (X i.toNat)) (bu.C (X i.toNat)))&&cJ (bu.m (X i.toNat)) (nr (bw (bu.L (X i.toNat)) (bu.G (X i.toNat)) (bu.C (X i.toNat))))&&cJ (bu.m (X i.toNat)) (ns (bw (bu.L (X i.toNat)) (bu.G (X i.toNat)) (bu.C (X i.toNat))))) (B (l_ (N i<=N i)&&true&&true&&l_ ((N i+1)*152<=140737488355328)&&true) (B (aJ f_ (i+1)) (bh (N i+1) (N (i+1)) (an (N i+1) (λb=>bif h_ b (N i)then br q.ng K S b else List.take 9 (List.drop (0+(b-N i)*9) [g_ q.ng 1 (ah (bu.W (X i.toNat))),b_ (Prod.fst (jx q (bu.m (X i.toNat)) (nr (bw (bu.L (X i.toNat)) (bu.G (X i.toNat)) (bu.C (X i.toNat)))) (ny (bw (bu.L (X i.toNat)) (bu.G (X i.toNat)) (bu.C (X i.toNat)))))),b_ (Prod.snd (jx q (bu.m (X i.toNat)) (nr (bw (bu.L (X i.toNat)) (bu.G (X i.toNat)) (bu.C (X i.toNat)))) (ny (bw (bu.L (X i.toNat)) (bu.G (X i.toNat)) (bu.C (X i.toNat)))))),b_ (Prod.fst (jy q (bu.m (X i.toNat)) (ns (bw (bu.L (X i.toNat)) (bu.G (X i.toNat)) (bu.C (X i.toNat)))) (ny (bw (bu.L (X i.toNat)) (bu.G (X i.toNat)) (bu.C (X i.toNat)))))),b_ (Prod.snd (jy q (bu.m (X i.toNat)) (ns (bw (bu.L (X i.toNat)) (bu.G (X i.toNat)) (bu.C (X i.toNat)))) (ny (bw (bu.L (X i.toNat)) (bu.G (X i.toNat)) (bu.C (X i.toNat)))))),b_ [48],b_ [49],b_ [48],b_ [49]])) (br q.ng K S)/\zyN q.nw (zyR q.nw (av q.C) (zyN q.ng (zyR q.ng (aN q.G) (zyI q.a (zyI q.fl (zyB q.nu (zyB q.de (zyI q.top (zyB [48] (zyB [49] (zyR 5 aC (zyI (i+1) (zyN n ((an n (λi=>[AV.bW [g_ q.ng 1 (ah (X i).W),g_ (X i).m 3 (bw (X i).L (X i).G (X i).C),g_ (X i).m 1 (ah (X i).T)] 0]) λi=>[AV.bW [g_ q.ng 1 (ah (X i).W),g_ (X i).m 3 (bw (X i).L (X i).G (X i).C),g_ (X i).m 1 (ah (X i).T)] 0])/\bh (N i+1) (N (i+1)) (zyI (i_ n) Q))))))))))))))))))))) (bh (N i) n (zyR (N i) (br q.ng K S) (zyN q.nw (zyR q.nw (av q.C) (zyN q.ng (zyR q.ng (aN q.G) (zyI q.a (zyI q.fl (zyB q.nu (zyB q.de (zyI q.top (zyB [48] (zyB [49] (zyR 5 aC (bh (N i) n True)))))))))))))))):=U
def Zf(q)(k)(F)(n)(X)(K)(S)(N)(Q):(kq [Lo q,nR,GI q,Xg] [(5001,15,Wk q n X K S N 0,Wl q n K S)] 26 [.agg (aZ q),cZ k F] Q)=(B (sE q [g_ q.nw 3 (av q.C),g_ q.ng 1 (aN q.G),d_ f_ q.a,d_ f_ q.fl,b_ q.nu,b_ q.de,d_ f_ q.top]&&dl q) (B (l_ (k<=1000000)&&du k λi=>aB (F i)) (ak (!bT k (bS λi=>aB (F i))) (Q (AV.bM [AV.aD,d_ f_ 200])) (B (sE q [g_ q.nw 3 (av q.C),g_ q.ng 1 (aN q.G),d_ f_ q.a,d_ f_ q.fl,b_ q.nu,b_ q.de,d_ f_ q.top]&&dl q&&p_ k 1000000&&pw k λi=>aB (F i)) (ay PP II false (az II 26 5001) 15 (Wk q n X K S N 0) (Wl q n K S)/\bh (N 0) 0 (zyN q.nw (zyR q.nw (av q.C) (zyN q.ng (zyR q.ng (aN q.G) (zyI q.a (zyI q.fl (zyB q.nu (zyB q.de (zyI q.top (zyB [48] (zyB [49] (zyR 5 aC (bh (M (bI q (bS λi=>aB (F i)) k)) n (an (M (bI q (bS λi=>aB (F i)) k)) (qu q.ng (M (bI q (bS λi=>aB (F i)) k)) (jg q.ng (bI q (bS λi=>aB (F i)) k))) (TB q.ng X)/\bh (N 0) 0 (aS (i_ (M (bI q (bS λi=>aB (F i)) k))) (i_ n) (B (k_ n n&&bj.free [g_ q.nw 3 (av q.C),g_ q.ng 1 (aN q.G),d_ f_ q.a,d_ f_ q.fl,b_ q.nu,b_ q.de,d_ f_ q.top]&&y_ (c_ n) λi=>bj.free (br q.ng K S i)) (B (jw [g_ q.nw 3 (av q.C),g_ q.ng 1 (aN q.G),d_ f_ q.a,d_ f_ q.fl,b_ q.nu,b_ q.de,d_ f_ q.top]&&Ah q.ng n (br q.ng K S)&&SS n (Ji (br q.ng K S))&&p_ n 1000000) (Q (AV.bM [g_ (xf {nw:=q.nw,C:=aF (av q.C),ng:=q.ng,G:=λj=>q.G j,a:=q.a,fl:=q.fl,nu:=q.nu,de:=q.de,top:=q.top} n (Ji (br q.ng K S))) 9 (br q.ng (λj=>Y7 (br q.ng K S) (lk {nw:=q.nw,C:=aF (av q.C),ng:=q.ng,G:=λj=>q.G j,a:=q.a,fl:=q.fl,nu:=q.nu,de:=q.de,top:=q.top} n (Ji (br q.ng K S)) j)) λj=>Ji (br q.ng K S) (lk {nw:=q.nw,C:=aF (av q.C),ng:=q.ng,G:=λj=>q.G j,a:=q.a,fl:=q.fl,nu:=q.nu,de:=q.de,top:=q.top} n (Ji (br q.ng K S)) j)),d_ f_ 0])))))))))))))))))))))))):=U
end
end Go.Sx
