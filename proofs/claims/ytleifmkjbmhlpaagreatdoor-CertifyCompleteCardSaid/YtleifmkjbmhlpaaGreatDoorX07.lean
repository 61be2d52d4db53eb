/- The proof of a statement of the seat, part 7. -/
import Derived.Test.YtleifmkjbmhlpaaGreatDoorX06
set_option linter.all false
set_option linter.defProp false
set_option maxRecDepth 1000000
namespace Go.Sx
open Go
open Nat renaming beq->M,zero_add->d_,le_of_not_lt->f_,ble->g_,blt_eq->i_,blt->k_,succ_mul->o_,zero_mul->q_,add_zero->r_
open Option renaming some->z,none->h_
open AV renaming le->a_
open List renaming range->b_,append_assoc->j_,take_append_drop->p_
open AH renaming blank->c_,get_set_same->e_,aL->s_
open Classical renaming byContradiction->l_
open Decidable renaming decide->m_
open Tr renaming le->n_
noncomputable section
structure yo (P:Program) (I:bg) (f:FuncId) (args:List AV) (H:AH) (kn kp:AV->AH->Prop):Prop where
 h:∃a,af P I f args H a/\a.sem id kn kp
def yo.ret{P I f args H H' a b kp}(h:af P I f args H (.ret a H'))(k:b a H'):yo P I f args H b kp:=⟨_,h,k⟩
def yo.rL{P I f args H H' a b kp}(h:af P I f args H (.rL a H'))(k:kp a H'):yo P I f args H b kp:=⟨_,h,k⟩
def gam(P:Program)(I:bg)(a:List Nat):FuncId->Option (Spec Prop):=λf=>
 bif vi a f then z (yo P I f)else h_
def XA(P)(I)(a):tW P I id (gam P I a):=by
 intro f s h args H e kp b;unfold gam at h;cases hm:vi a f with
 |false=>rw[hm]at h;cases h
 |true=>rw[hm]at h;simp only[cond_true,gO]at h;subst h;obtain⟨o,c,d⟩:=b.h;exact⟨o,d,c⟩
def l5:Code->Nat
 | .region id ops _=>1000*id+ops.size
 | .seq a _=>l5 a
 | .block _ c=>l5 c
 | .scope c=>l5 c
 | .loop c=>l5 c
 |_=>0
structure HH (P:Program) (I:bg) (ir:Bool) (c:Code) (s:St) (k:KS Prop):Prop where
 h:∃e,eW P I ir (.code (.loop c)) s e/\e.sem id k
def lam(P:Program)(I:bg)(ks:List Nat):jf Prop:=λir t s=>match t with
 | .code (.loop c)=>bif vi ks (l5 c)then z (HH P I ir c s)else h_
 |_=>h_
def XB(P)(I)(ks):gv P I id (lam P I ks):=by
 intro ir t s g h k a;unfold lam at h;split at h
 ·rename_i c;cases hm:vi ks (l5 c)with
  |false=>rw[hm]at h;cases h
  |true=>rw[hm]at h;simp only[cond_true,gO]at h;subst h;obtain⟨e,b,d⟩:=a.h;exact⟨e,d,b⟩
 ·cases h
def LV:Nat:=1000000000000
def prun(P:Program)(I:bg)(a ks:List Nat)(fuel:Nat):ly Prop:=run RI.l3 I (gam P I a) (lam P I ks) (yn RI.l3 I LV [54,55]) fuel
def Ur{P I}(hI:I.Ok P)(a ks)(fuel):xZ P I id (prun P I a ks fuel):=
 C2 RI.dX hI (XA P I a) (XB P I ks) (vn RI.dX hI LV [54,55]) fuel
structure mM (n0:Nat) (a:AV) (H:AH) (a':AV) (H':AH):Prop where
 le:∃σ,AH.Le n0 σ H H'/\a_ σ a a'
def af.le{P:Program}{I:bg}{f:FuncId}{args:List AV}{H H1 H':AH}{a a':AV}(h:af P I f args H (.ret a H1))(k:mM H.n a H1 a' H'):af P I f args H (.ret a' H'):=by
 obtain⟨σ,k1,k2⟩:=k.le;intro c ρ w vs hG t b;have post:∀e w',(CO.ret a H1).post c ρ e w'->(CO.ret a' H').post c ρ e w':=by
  intro e w' d;cases e with
  |returned v=>
   obtain⟨ρ',hx,i,j⟩:=d;have m:c.G<=H.n:=by
    refine f_ λo=>?_
    obtain⟨N,q⟩:=b.eZ H.n o;rw[b.top _ (dP _)]at q;cases q
   refine⟨_,((jI.of hx).trans (k1.ext ρ')).ext b,i.view k1 m λl hl=>(b.env l hl).1,VR.le _ _ _ k2 j⟩
  |panicked u=>exact d.elim
  |outgrown=>exact d.elim
 rcases h c ρ w vs hG t b with⟨h1,s⟩|⟨v,w',h1,s⟩
 ·exact .inl ⟨h1,s.mono post⟩
 grind
structure PU {ι:Type} (n0:Nat) (a:ι->Prop) (b:ι->St) (E:ι->aK) (μ:ι->Nat) (i:ι) (s:St):Prop where
 h:∃c,a c/\μ c<μ i/\St.Le n0 s (b c)/\E c=E i
def PU.of{ι n0 J S E a i s}(j:ι)(b:J j)(c:a j<a i)(h3:E j=E i)(h4:St.Le n0 s (S j)):PU n0 J S E a i s:=⟨j,b,c,h4,h3⟩
def XC{ι:Type}(n0:Nat)(J:ι->Prop)(S:ι->St)(E:ι->aK)(a:ι->Nat)(i:ι):KS Prop :=
 {n:=λs=>PU n0 J S E a i s
  x:=λb s=>aK.Le n0 (.x b s) (E i)
  g:=λb s=>aK.Le n0 (.g b s) (E i)
  r:=λs=>aK.Le n0 (.r s) (E i)
  p:=λ_ _=>False}
def HH.run{P I}(hI:I.Ok P)(d ks)(fuel){ι s c ir k}(J)(S)(E)(f)(i:ι)(j:g_ I.G s.H.n=true)(l:J i)(start:St.Le s.H.n s (S i))
  (a:∀i,J i->prun P I d ks fuel ir (.code c) (S i) (XC s.H.n J S E f i)) (m:(E i).sem id k):HH P I ir c s k:=by
 refine⟨E i,th f (by simp_all) l start λi hi=>?_,m⟩;obtain⟨e,b,o⟩:=Ur hI d ks fuel _ _ _ _ (a i hi);refine⟨e,o,?_⟩;cases e<;>first|exact b.h|exact b|exact b.elim
def XD(p:Nat->Prop):Nat->Prop:=λn=>Nat.rec (motive:=λ_=>Prop) True (λi acc=>acc/\p i) n
def fI{p}:∀{n},XD p n↔ ∀i,i<n->p i
 |0=>⟨zA,λ_=>trivial⟩
 |n+1=>by
  constructor
  ·rintro⟨h1,a⟩ i hi
   by_cases e:i=n
   ·subst e;exact a
   ·exact fI.1 h1 i O
  ·intro h;exact⟨fI.2 λi hi=>h i O,h n O⟩
def sig(n0:Nat)(a:List Nat)(N l:Nat):Nat:=bif k_ l n0 then l else match a[l-n0]? with
 |some x=>x
 |none=>N+l
def wm(σ:Nat->Nat)(N l:Nat)(H:AH):aae->Prop
 | .dead=>True
 |b=>if σ l<N then(H.get (σ l)).le σ b else b.nothing
def vo:List Nat->Bool
 |[]=>true
 |a::as=>bif vi as a then false else vo as
def Tr.yp{α:Type}(N:Nat):Tr α->(Nat->Nat)->Bool
 | .e,_=>true
 | .n l v r,f=>(match v with|none=>true|some _=>k_ (f 0) N)&&l.yp N (λi=>f (2*i+1))&&r.yp N (λi=>f (2*i+2))
def Tr.vp{α:Type}{N:Nat}:∀{t:Tr α}{f:Nat->Nat},t.yp N f=true->∀i,N<=f i->t.get i=h_
 | .e,_,_,_,_=>rfl
 | .n l v r,f,h,i,hi=>by
  simp only[Tr.yp,ba]at h;simp only[Tr.get];cases a:M i 0 with
  |true=>
   have:=dV a;subst this;cases v with
   |none=>rfl
   |some x=>have:=h.1.1;rw[i_]at this;omega
  |false=>
   have b:i≠0:=λe=>by subst e;cases a
   cases h1:M (i%2) 1 with
   |true=>
    have c:=dV h1;exact Tr.vp h.1.2 (i/2) (by
     grind)
   |false=>
    have c:i%2≠1:=λe=>by simp_all
    exact Tr.vp h.2 (i/2-1) (by
     grind)
def AH.Us(H:AH):Bool:=H.t.yp H.n (λi=>i)
def AH.XE{H:AH}(h:H.Us=true):∀l,H.n<=l->H.get l= .dead:=λl hl=>by
 have:=Tr.vp h l hl;simp only[AH.get,this]
def aae.C5:aae->Bool
 | .dead=>true
 |_=>false
def aae.LX{b:aae}(h:b.C5=true):b= .dead:=by cases b<;>first|rfl|cases h
structure ie (n0:Nat) (labs:List Nat) (H H':AH):Prop where
 n:n0+labs.length=H'.n
 ge:(labs.all λx=>g_ n0 x||(H'.get x).C5)=true
 nodup:vo labs=true
 low:H'.Us=true
 n1:n0<=H.n
 eB:XD (λl=>wm (sig n0 labs H.n) H.n l H (H'.get l)) H'.n
def yq:∀{l}(_:vo l=true){i j x:Nat},l[i]? =z x->l[j]? =z x->i=j
 |[],_,i,j,x,h1,_=>by simp at h1
 |a::as,h,i,j,x,h1,b=>by
  simp only[vo]at h;cases hm:vi as a with
  |true=>rw[hm]at h;cases h
  |false=>
   rw[hm,cond_false]at h;have c:a∉as:=λe=>by rw[yf.2 e]at hm;cases hm
   cases i with
   |zero=>
    grind
   |succ i=>
    cases j with
    |zero=>
     grind
    |succ j=>simp at h1 b;rw[yq h h1 b]
def C6{n0 N l a}(h:l<n0):sig n0 a N l=l:=by
 have:k_ l n0=true:=by rw[i_];exact h
 simp[sig,this]
def PV{n0 N l a}(h:n0<=l):sig n0 a N l=match a[l-n0]? with|some x=>x|none=>N+l:=by
 have:k_ l n0=false:=by rw[Bool.eq_false_iff];intro e;rw[i_]at e;omega
 simp[sig,this]
def ie.of{n0 a}{H H':AH}(b:n0+a.length=H'.n)(c:(a.all λx=>g_ n0 x||(H'.get x).C5)=true)(h3:vo a=true)(h4:H'.Us=true)(f:g_ n0 H.n=true)
  (d:XD (λl=>wm (sig n0 a H.n) H.n l H (H'.get l)) H'.n):ie n0 a H H':=⟨b,c,h3,h4,by simp_all,d⟩
def ie.le{n0:Nat}{a:List Nat}{H H':AH}(h:ie n0 a H H'):AH.Le n0 (sig n0 a H.n) H H':=by
 have d:=AH.XE h.low;refine⟨by have:=h.n;omega,λl hl=>C6 hl,λl hl=>?_,λl=>?_,λl m v u e b=>?_,d⟩
 ·have:=h.n;rw[PV O,List.getElem?_eq_none O];simp
 ·by_cases hl:l<H'.n
  ·have:=fI.1 h.eB l hl;unfold wm at this
   grind
  grind
 ·have c:∀l,n0<=l->(sig n0 a H.n l)<H.n->∃x,a[l-n0]? =z x/\sig n0 a H.n l=x:=λl hl b=>by
   rw[PV hl]at b⊢
   grind
  have ge:∀x,x∈a->H'.get x≠ .dead->n0<=x:=λx hx o=>by
   have:=List.all_eq_true.1 h.ge x hx;simp only[Bool.or_eq_true]at this;rcases this with k|k
   simp_all
   ·exact absurd (aae.LX k) o
  by_cases h1:l<n0
  ·rw[C6 h1]at e;by_cases f:m<n0
   ·rw[C6 f]at e;exact e
   ·obtain⟨x,i,j⟩:=c m (f_ f) (by rw[<-e];have:=h.n1;omega)
    grind
  ·obtain⟨x,i,j⟩:=c l (f_ h1) b;by_cases f:m<n0
   ·rw[C6 f]at e
    grind
   ·obtain⟨y,q,s⟩:=c m (f_ f) (by rw[<-e];exact b);have t:x=y:=by rw[<-j,<-s,e]
    subst t;have:=yq h.nodup i q;omega
def St.ZQ{n0 s b}(a)(h:ie n0 a s.H b.H)(c:s.nt=b.nt)(ht:n_ (sig n0 a s.H.n) s.t b.t)(d:s.df=b.df.map (sig n0 a s.H.n)):St.Le n0 s b :=
 ⟨⟨_,h.le,c,ht,d⟩⟩
def mM.of{n0 a a' H H'}(b)(h:ie n0 b H H')(c:a_ (sig n0 b H.n) a a'):mM n0 a H a' H':=⟨⟨_,h.le,c⟩⟩
structure ax (P:Program) (I:bg) where
 f:FuncId
 spec:{R:Type}->RI R->Spec R
 ok:∀{R:Type}(X:RI R)(sem:R->Prop),X.Ok sem->∀args H kn kp,sem (spec X args H kn kp)->∃o:CO,o.sem sem kn kp/\af P I f args H o
def known{P:Program}{I:bg}{R:Type}(X:RI R):List (ax P I)->FuncId->Option (Spec R)
 |[],_=>h_
 |k::ks,f=>bif M f k.f then z (k.spec X)else known X ks f
def qK{P I R X}{sem:R->Prop}(hX:X.Ok sem):∀ks:List (ax P I),tW P I sem (known X ks)
 |[],f,s,h=>zE
 |k::ks,f,s,h=>by
  intro args H a kp b;unfold known at h;cases e:M f k.f with
  |true=>rw[e,cond_true,gO]at h;subst h;rw[dV e];exact k.ok X sem hX args H a kp b
  |false=>rw[e,cond_false]at h;exact qK hX ks f s h args H a kp b
def af.pure{P I f args a}(h:af P I f args (c_ I.G) (.ret a (c_ I.G)))(b:∀σ,bj.bx σ args=args)(ha:∀σ,a.bx σ=a)(H):
  af P I f args H (.ret a H):=by
 intro c ρ w vs hG m d;have o:I.G<=H.n:=by
  rw[<-hG];refine f_ λi=>?_
  obtain⟨N,j⟩:=d.eZ H.n i;rw[d.top _ (dP _)]at j;cases j
 have q:∀l,(c_ I.G).get l= .dead:=λl=>rfl
 let σ:Nat->Nat:=λl=>if l<I.G then l else H.n+(l-I.G)
 have s:Sub I.G σ (c_ I.G) H :=
  {lt:=λl hl=>by
    have:l<I.G:=hl
    grind
   ge:=λl hl=>by have :¬ l<I.G:=Nat.not_lt.2 hl;simp only[σ,if_neg this];rfl
   same:=Y
   inj:=Y
   eZ:=λg t=>⟨t,Y⟩
   low:=λl _=>q l}
 have ht:EE σ (c_ I.G) (CO.ret a (c_ I.G)).heap H H :=
  {n:=by show H.n=H.n+(I.G-I.G);omega
   old:=Y
   new:=λl hl=>by have :¬ l<I.G:=Nat.not_lt.2 hl;simp only[σ,if_neg this];rw[d.low _ O];rfl
   rest:=λ_ _ _=>rfl}
 have:=h.lift s ht;rw[b]at this;have e:(CO.ret a (c_ I.G)).jt σ H= .ret a H:=by show CO.ret (a.bx σ) H=_;rw[ha]
 rw[e]at this;exact this c ρ w vs hG m d
def w7{P:Program}{I:bg}(ks:List (ax P I))(a:jf Prop)(fuel:Nat):ly Prop:=run RI.l3 I (known RI.l3 ks) a (yn RI.l3 I LV [54,55]) fuel
def pN{P I}(hI:I.Ok P)(ks:List (ax P I)){b}(a:gv P I id b)(fuel):xZ P I id (w7 ks b fuel):=
 C2 RI.dX hI (qK RI.dX ks) a (vn RI.dX hI LV [54,55]) fuel
def ka{P:Program}{I:bg}(ks:List (ax P I))(a:jf Prop)(fuel:Nat):j6 Prop:=pH RI.l3 I (λ_=>h_) (w7 ks a fuel)
def iJ{P I}(hI:I.Ok P)(ks:List (ax P I)){b}(a:gv P I id b)(fuel):jq P I id (ka ks b fuel):=
 rQ RI.dX hI (λ_ _ h=>zE) (pN hI ks a fuel)
section
def aae.qz:aae->aae
 | .cells cs _=> .cells cs .ro
 | .rows n e f _=> .rows n e f .ro
 | .str s _=> .str s .ro
 |b=>b
def aae.yr:aae->Bool
 | .cells _ _=>true
 | .rows _ _ _ _=>true
 | .str _ _=>true
 |_=>false
theorem aE.qz{ρ:Env}{w:World}{o:Option (Nat×Nat)}{cs:List AV}{a:Access}(h:aE ρ w o cs a)(i:∀r N vs,o=z (r,N)->(∃el c,w.heap[r]? =z (.cells vs.toArray el c))->ρ.fz r=z vs):aE ρ w o cs .ro:=by
 rcases h with h|⟨b,N,vs,rest,el,c,h1,d,h3,h4,j,f,l⟩
 ·exact .inl h
 ·exact .inr ⟨b,N,vs,rest,el,c,h1,d,h3,h4,⟨(λe=>zG),zA,zA⟩,f,λ_=>Y⟩
theorem Rel.freeze{c:fE}{ρ:Env}{H:AH}{w:World}(h:Rel c ρ H w){l:Nat}(m:(H.get l).yr=true)(E:(H.get l).rw=true):
  ∃ρ',Ext ρ ρ'/\ρ'.pl=ρ.pl/\Rel c ρ' (H.set l (H.get l).qz) w:=by
 have q:∀i,i≠l->(H.set l (H.get l).qz).get i=H.get i:=λi e=>s_ _ _ (λe'=>e e'.symm)
 have J:(H.get l).qz.rw=false:=by cases o:H.get l<;>rw[o]at m<;>first|rfl|cases m
 have v:H.get l≠ .dead:=λe=>by rw[e]at E;cases E
 have aa:=h.rG E;have I:∀ρ':Env,ρ'.pl=ρ.pl->Ext ρ ρ'->bn ρ' w (ρ l) (H.get l).qz->(∀b vs,ρ'.fz b=z vs->∃el F,w.heap[b]? =z (.cells vs.toArray el F))->
   (∀b,ρ'.fz b≠ρ.fz b->∃N,ρ l=z (b,N))->Rel c ρ' (H.set l (H.get l).qz) w:=by
  intro ρ' t hx o O P;refine⟨λi=>?_,λi i' r N y C d u G=>?_,λi r N d u=>?_,h.gY,h.size,h.os,h.output,h.tape,λi hi=>?_,λg hg=>?_,λi r N U u=>?_,λi hi=>?_,λi hi=>?_,O,λi r N d u=>?_,λb o=>?_,λb vs e=>hx.fz b vs (h.sZ b vs e)⟩
  ·by_cases e:i=l
   ·subst e;rw[e_,t];exact o
   ·rw[q i e,t];exact(h.eB i).ext hx
  ·have e:i≠l:=λe=>by subst e;rw[e_,J]at d;cases d
   rw[q i e]at d;rw[t]at u G;have U:=h.sep i i' r N y C d u G
   grind
  ·have e:i≠l:=λe=>by subst e;rw[e_,J]at d;cases d
   rw[q i e]at d;rw[t]at u;exact h.iB i r N d u
  ·rw[t];exact h.top i hi
  ·rw[t];exact h.eZ g hg
  ·rw[t]at u;by_cases e:i=l
   ·subst e;exact h.hid i r N v u
   ·rw[q i e]at U;exact h.hid i r N U u
  ·rw[t];exact h.env i hi
  ·rw[q i (by simp at hi;omega)];exact h.low i hi
  ·have e:i≠l:=λe=>by subst e;rw[e_,J]at d;cases d
   rw[q i e]at d;rw[t]at u;apply l_;intro C;have D:=h.sy i r N d u;obtain⟨y,G⟩:=P r (by rw[D];exact C);exact v (h.sep i l r N y e d u G)
  ·apply l_;intro C;have D:=h.tJ b o;obtain⟨y,G⟩:=P b (by rw[D];exact C);exact h.hid l b y v G o
 cases S:ρ l with
 |none=>
  refine⟨ρ,Ext.refl ρ,rfl,I ρ A (Ext.refl ρ) ?_ h.sY zA⟩;have:=h.eB l;rw[S]at this⊢;cases o:H.get l with
  |cells cs a=>rw[o]at this;exact aE.qz this zA
  |rows n e f a=>rw[o]at this;exact⟨this.1,aE.qz this.2 zA⟩
  |str s a=>rw[o]at this;exact aE.qz (cs:=byteCells s) this zA
  |_=>rw[o]at m;cases m
 |some x=>
  obtain⟨r,N⟩:=x;have ad:=h.sy l r N E S;have j:=h.eB l;rw[S]at j;have K:∃vs el F,w.heap[r]? =z (.cells (List.toArray vs) el F):=by
   cases o:H.get l with
   |cells cs a=>
    rw[o]at j;rcases j with⟨_,X⟩|⟨b,y,vs,rest,el,F,u,G,_⟩
    all_goals grind
   |rows n e f a=>
    rw[o]at j;rcases j.2 with⟨_,X⟩|⟨b,y,vs,rest,el,F,u,G,_⟩
    all_goals grind
   |str s a=>
    rw[o]at j;rcases(j:aE _ _ _ _ _)with⟨_,X⟩|⟨b,y,vs,rest,el,F,u,G,_⟩
    all_goals grind
   |_=>rw[o]at m;cases m
  obtain⟨L,ap,a6,Q⟩:=K
  let ρ':Env:=⟨ρ.pl,λb=>if b=r then z L else ρ.fz b⟩
  have V:ρ'.fz r=z L:=by show(if r=r then z L else _)=_;rw[if_pos A]
  have R:∀b,b≠r->ρ'.fz b=ρ.fz b:=Y;have hx:Ext ρ ρ':=⟨λ_ _ e=>e,λb vs e=>by
   grind⟩
  refine⟨ρ',hx,rfl,I ρ' A hx ?_ ?_ ?_⟩
  ·have W:∀T y (vs:List Value),z (r,N)=z (T,y)->(∃el F,w.heap[T]? =z (.cells vs.toArray el F))->ρ'.fz T=z vs:=by
    intro T y vs e hh;cases e;obtain⟨el,F,Z⟩:=hh;rw[Q]at Z;cases Z;exact V
   rw[S];cases o:H.get l with
   |cells cs a=>rw[o]at j;exact aE.qz (aE.ext hx j) W
   |rows n e f a=>rw[o]at j;exact⟨j.1,aE.qz (aE.ext hx j.2) W⟩
   |str s a=>rw[o]at j;exact aE.qz (cs:=byteCells s) (aE.ext hx j) W
   |_=>rw[o]at m;cases m
  ·intro b vs e;by_cases o:b=r
   grind
   ·rw[R b o]at e;exact h.sY b vs e
  grind
mutual
def AV.free:AV->Bool
 | .ptr _ _ _ _=>false
 | .slice _ _ _ _ _ _=>false
 | .own _ _ _=>false
 | .map (z _)=>false
 | .yield _=>false
 | .fn _ a b=>bj.free a&&bj.free b
 | .iface _ a=>a.free
 | .agg cs=>bj.free cs
 | .bM cs=>bj.free cs
 |_=>true
def bj.free:List AV->Bool
 |[]=>true
 |a::as=>a.free&&bj.free as
end
mutual
theorem VR.free{ρ:Env}:∀(a:AV)(v:Value),a.free=true->VR ρ a v->VR ρ.bare a v
 | .ptr _ _ _ _,_,h,_=>zE
 | .slice _ _ _ _ _ _,_,h,_=>zE
 | .own _ _ _,_,h,_=>zE
 | .map (z _),_,h,_=>zE
 | .yield _,_,h,_=>zE
 | .fn f a b,v,h,k=>by simp only[AV.free,ba]at h;simp only[VR]at k⊢;obtain⟨us,vs,e,r,s⟩:=k;exact⟨us,vs,e,aV.free a us h.1 r,aV.free b vs h.2 s⟩
 | .iface t a,v,h,k=>by simp only[AV.free]at h;simp only[VR]at k⊢;obtain⟨u,e,r⟩:=k;exact⟨u,e,VR.free a u h r⟩
 | .agg cs,v,h,k=>by simp only[AV.free]at h;simp only[VR]at k⊢;obtain⟨vs,e,r⟩:=k;exact⟨vs,e,aV.free cs vs h r⟩
 | .bM cs,v,h,k=>by simp only[AV.free]at h;simp only[VR]at k⊢;obtain⟨vs,e,r⟩:=k;exact⟨vs,e,aV.free cs vs h r⟩
 | .bW cs j,v,_,hk=>by simp only[VR]at hk⊢;exact hk
 | .ae len e f,v,_,hk=>by simp only[VR]at hk⊢;exact hk
 | .bool _,_,_,k=>zF
 | .int _ _,_,_,k=>zF
 | .str _,_,_,k=>zF
 | .nilPtr,_,_,k=>zF
 | .aD,_,_,k=>zF
 | .map h_,_,_,k=>zF
 | .jm,_,_,k=>zF
 | .addr _ _,_,_,k=>zF
 | .nilIface,_,_,k=>zF
 | .any,_,_,k=>zB
theorem aV.free{ρ:Env}:∀(as:List AV)(vs:List Value),bj.free as=true->aV ρ as vs->aV ρ.bare as vs
 |[],_,_,k=>by simpa only[aV]using k
 |a::as,vs,h,k=>by simp only[bj.free,ba]at h;simp only[aV]at k⊢;obtain⟨u,us,e,r,s⟩:=k;exact⟨u,us,e,VR.free a u h.1 r,aV.free as us h.2 s⟩
end
def od(H:AH)(l:Nat):Option AH :=
 match H.get l with
 | .cells _ .ro=>z H
 | .rows _ _ _ .ro=>z H
 | .str _ .ro=>z H
 | .cells _ (.ex _)=>h_
 | .rows _ _ _ (.ex _)=>h_
 | .str _ (.ex _)=>h_
 | .cells cs _=>z (H.set l (.cells cs .ro))
 | .rows n e f _=>z (H.set l (.rows n e f .ro))
 | .str s _=>z (H.set l (.str s .ro))
 |_=>h_
theorem C7{H H' l}(h:od H l=z H'){c ρ w}(j:Rel c ρ H w):(H'.get l=(H.get l).qz)/\((H.get l).yr=true)/\H'.n=H.n/\∃ρ',Ext ρ ρ'/\ρ'.pl=ρ.pl/\Rel c ρ' H' w:=by
 have key:∀b,(H.get l).yr=true->(H.get l).rw=true->b=(H.get l).qz->H'=H.set l b->(H'.get l=(H.get l).qz)/\((H.get l).yr=true)/\H'.n=H.n/\∃ρ',Ext ρ ρ'/\ρ'.pl=ρ.pl/\Rel c ρ' H' w:=by intro b k o h3 h4;subst h3 h4;obtain⟨ρ',p,q,r⟩:=j.freeze k o;exact⟨e_ _ _ _,k,rfl,ρ',p,q,r⟩
 unfold od at h;split at h
 ·rename_i cs d;cases h;rw[d];exact⟨rfl,rfl,rfl,ρ,Ext.refl ρ,rfl,j⟩
 ·rename_i n e f d;cases h;rw[d];exact⟨rfl,rfl,rfl,ρ,Ext.refl ρ,rfl,j⟩
 ·rename_i s d;cases h;rw[d];exact⟨rfl,rfl,rfl,ρ,Ext.refl ρ,rfl,j⟩
 ·cases h
 ·cases h
 ·cases h
 ·rename_i cs a g i d;cases h;refine key _ (by rw[d];rfl) ?_ (by rw[d];rfl) A;rw[d];cases a with
  |ro=>exact absurd A g
  |ex m=>grind
  |_=>rfl
 ·rename_i n e f a g i d;cases h;refine key _ (by rw[d];rfl) ?_ (by rw[d];rfl) A;rw[d];cases a with
  |ro=>exact absurd A g
  |ex m=>grind
  |_=>rfl
 ·rename_i s a g i d;cases h;refine key _ (by rw[d];rfl) ?_ (by rw[d];rfl) A;rw[d];cases a with
  |ro=>exact absurd A g
  |ex m=>grind
  |_=>rfl
 ·cases h
theorem aE.Ut{ρ:Env}{w:World}{o:Option (Nat×Nat)}{cs:List AV}{a:Access}(h:aE ρ w o cs a):∃vs,aV ρ cs vs:=by
 rcases h with⟨rfl,_⟩|⟨b,N,vs,rest,el,c,h1,d,h3,h4,_⟩
 ·exact⟨[],zH⟩
 ·exact⟨vs,h4⟩
theorem aE.fz{ρ:Env}{w:World}{b N:Nat}{cs:List AV}(h:aE ρ w (z (b,N)) cs .ro):∃vs rest,aV ρ cs vs/\(∀v∈vs,v.oneCell'=true)/\ρ.fz b=z (vs++rest):=by
 rcases h with⟨_,h⟩|⟨b,N,vs,rest,el,a,h1,c,h3,h4,d,f,i⟩
 all_goals grind
theorem ua{α:Type}{l:List α}{o e}:∀{n},o+n*e<=l.length->(b_ n).flatMap (λi=>(l.drop (o+i*e)).take e)=(l.drop o).take (n*e)
 |0,_=>zA
 |n+1,h=>by rw[o_]at h;rw[List.range_succ,List.flatMap_append,ua (n:=n) O,o_,List.take_add,List.drop_drop];simp
theorem tI.sub{ρ b vs rest}(h:ρ.fz b=z (vs++rest))(a:∀v∈vs,v.oneCell'=true)(o m)(hl:o<=vs.length):tI ρ b o ((vs.drop o).take m):=by
 refine⟨λv c=>Y,vs.take o,(vs.drop o).drop m++rest,by simp;omega,?_⟩;rw[h,j_,<-j_ ((vs.drop o).take m),p_,<-j_,p_]
theorem tI.all{ρ:Env}{b:Nat}{vs rest:List Value}(h:ρ.fz b=z (vs++rest))(a:∀v∈vs,v.oneCell'=true):tI ρ b 0 vs:=⟨a,[],rest,rfl,by simpa using h⟩
theorem tI.rows{ρ:Env}{b:Nat}{vs rest:List Value}(h:ρ.fz b=z (vs++rest))(a:∀v∈vs,v.oneCell'=true){o e len:Nat}(hl:o+len*e<=vs.length):
  tI ρ b o ((b_ len).flatMap λi=>(vs.drop (o+i*e)).take e)/\∀i,i<len->((vs.drop (o+i*e)).take e).length=e:=by
 refine⟨by rw[ua hl];exact tI.sub h a o _ O,λi hi=>?_⟩;have:i*e+e<=len*e:=by
  have:=Nat.mul_le_mul_right e (O:i+1<=len)
  rwa[o_]at this
 simp;omega
theorem aE.PW{ρ w b N n e f}(d:∀i,i<n->(f i).length=e)(h:aE ρ w (z (b,N)) (rowsOf n f) .ro)(a:∀i,i<n->bj.free (f i)=true):
  ∃c,tI ρ b 0 ((b_ n).flatMap c)/\∀i,i<n->(c i).length=e/\aV ρ.bare (f i) (c i):=by
 obtain⟨vs,rest,j,l,h3⟩:=h.fz;have hl:vs.length=n*e:=by rw[<-j.length_eq];exact bD d
 obtain⟨k1,k2⟩:=tI.rows h3 l (o:=0) (e:=e) (len:=n) O;refine⟨_,k1,λi hi=>⟨k2 i hi,aV.free _ _ (a i hi) ?_⟩⟩;obtain⟨t,ht⟩:=nL d hi;have:=(j.drop (i*e)).take e
 grind
section
variable {R:Type} (X:RI R)
mutual
def tK:Nat->AV->AH->(AV->AH->R)->R
 |0,_,_,_=>X.fail
 |d+1,a,H,K=>match a with
  | .ptr l k e j=>match od H l with
   |some H1=>match H1.get l with
    | .cells cs _=>kJ d cs H1 λc H2=>K (.bW c (k*e+j)) H2
    | .rows n g f _=>X.ag (((b_ n).all λi=>bj.free (f i))&&m_ (k<n)) (if e=g then K (.bW (f k) j) H1 else X.fail)
    |_=>X.fail
   |none=>X.fail
  | .slice l base k len _ e=>match od H l with
   |some H1=>match H1.get l with
    | .cells cs _=>kJ d cs H1 λc H2=>X.ag (m_ (base+k*e+len*e<=cs.length)) (K (.ae len e (λi=>(c.drop (base+k*e+i*e)).take e)) H2)
    | .rows n g f _=>if e=g/\base=0 then X.ag (((b_ n).all λi=>bj.free (f i))&&m_ (k+len<=n)) (K (.ae len e (λi=>f (k+i))) H1)else X.fail
    | .str s _=>if e=1/\base=0 then X.ag (m_ (k+len<=s.length)) (K (.ae len 1 (λi=>fu s (k+i))) H1)else X.fail
    |_=>X.fail
   |none=>X.fail
  | .own l len e=>match od H l with
   |some H1=>match H1.get l with
    | .cells cs _=>kJ d cs H1 λc H2=>X.ag (m_ (len*e<=cs.length)) (K (.ae len e (λi=>(c.drop (i*e)).take e)) H2)
    | .rows n g f _=>if e=g then X.ag (((b_ n).all λi=>bj.free (f i))&&m_ (len<=n)) (K (.ae len e f) H1)else X.fail
    | .str s _=>if e=1 then X.ag (m_ (len<=s.length)) (K (.ae len 1 (fu s)) H1)else X.fail
    |_=>X.fail
   |none=>X.fail
  | .map (z _)=>X.fail
  | .yield _=>X.fail
  | .fn f a b=>kJ d a H λa' H1=>kJ d b H1 λm H2=>K (.fn f a' m) H2
  | .iface t a=>tK d a H λa' H1=>K (.iface t a') H1
  | .agg cs=>kJ d cs H λc H1=>K (.agg c) H1
  | .bM cs=>kJ d cs H λc H1=>K (.bM c) H1
  |a=>K a H
def kJ:Nat->List AV->AH->(List AV->AH->R)->R
 |0,_,_,_=>X.fail
 |d+1,as,H,K=>match as with
  |[]=>K [] H
  |a::as=>tK d a H λa' H1=>kJ d as H1 λh H2=>K (a'::h) H2
end
end
section
variable {R:Type} {X:RI R} {sem:R->Prop} (hX:X.Ok sem)
def kc(a:AV)(H:AH)(a':AV)(H':AH):Prop:=H'.n=H.n/\∀c ρ w v,Rel c ρ H w->VR ρ a v->∃ρ',Ext ρ ρ'/\Rel c ρ' H' w/\VR ρ'.bare a' v
def vq(a:List AV)(H:AH)(a':List AV)(H':AH):Prop:=H'.n=H.n/\∀c ρ w v,Rel c ρ H w->aV ρ a v->∃ρ',Ext ρ ρ'/\Rel c ρ' H' w/\aV ρ'.bare a' v
theorem Ext.bb{a b}(h:Ext a b):Ext a.bare b.bare:=h.bare
include hX in
mutual
theorem lz:∀(d:Nat)(a:AV)(H:AH)(K:AV->AH->R),sem (tK X d a H K)->∃a' H',sem (K a' H')/\kc a H a' H'
 |0,a,H,K,h=>by simp only[tK]at h;exact zR
 |d+1,a,H,K,h=>by
  have same:∀a:AV,a.free=true->sem (K a H)->∃a' H',sem (K a' H')/\kc a H a' H':=λa ha h=>
   ⟨a,H,h,rfl,λc ρ w v p g=>⟨ρ,Ext.refl ρ,p,VR.free a v ha g⟩⟩
  have F:∀{l:Nat}{H1:AH}{cs:List AV}{rw:Access}{K':List AV->AH->R},od H l=z H1->H1.get l= .cells cs rw->sem (kJ X d cs H1 K')->
    ∃P H2,sem (K' P H2)/\H2.n=H.n/\∀c ρ w,Rel c ρ H w->∃ρ',Ext ρ ρ'/\Rel c ρ' H2 w/\∀b N,ρ l=z (b,N)->∃vs rest,aV ρ'.bare P vs/\cs.length=vs.length/\(∀v∈vs,v.oneCell'=true)/\ρ'.fz b=z (vs++rest):=by
   intro l H1 cs rw K' q D h3;obtain⟨P,H2,T,I,G⟩:=iy d cs H1 K' h3;refine⟨P,H2,T,?_,λc ρ w p=>?_⟩
   ·unfold od at q;split at q<;>cases q<;>exact I
   ·obtain⟨f1,Y,_,E,f3,f4,f5⟩:=C7 q p;have U:rw= .ro:=by
     rw[D]at f1;cases r:H.get l<;>rw[r]at f1 Y<;>simp[aae.qz,aae.yr]at f1 Y;exact f1.2
    subst U;have r:=f5.eB l;rw[D,f4]at r;cases ho:ρ l with
    |none=>rw[ho]at r;obtain⟨vs,ad⟩:=aE.Ut r;obtain⟨Q,g1,g2,g3⟩:=G c E w vs f5 ad;exact⟨Q,f3.trans g1,g2,λb N e=>zG⟩
    |some x=>obtain⟨b,N⟩:=x;rw[ho]at r;obtain⟨vs,rest,k1,k2,k3⟩:=aE.fz r;obtain⟨Q,g1,g2,g3⟩:=G c E w vs f5 k1;exact⟨Q,f3.trans g1,g2,λb' N' e=>by cases e;exact⟨vs,rest,g3,k1.length_eq,k2,g1.fz _ _ k3⟩⟩
  have S:∀{l:Nat}{H1:AH}{n e:Nat}{f:Nat->List AV}{rw:Access},od H l=z H1->H1.get l= .rows n e f rw->((b_ n).all λi=>bj.free (f i))=true->
    H1.n=H.n/\∀c ρ w,Rel c ρ H w->∃ρ',Ext ρ ρ'/\Rel c ρ' H1 w/\∀b N,ρ l=z (b,N)->∃C,tI ρ' b 0 ((b_ n).flatMap C)/\∀i,i<n->(C i).length=e/\aV ρ'.bare (f i) (C i):=by
   intro l H1 n e f rw q D h3;refine⟨?_,λc ρ w p=>?_⟩
   ·unfold od at q;split at q<;>cases q<;>rfl
   ·obtain⟨f1,Y,_,E,f3,f4,f5⟩:=C7 q p;have U:rw= .ro:=by
     rw[D]at f1;cases r:H.get l<;>rw[r]at f1 Y<;>simp[aae.qz,aae.yr]at f1 Y;exact f1.2.2.2
    subst U;refine⟨E,f3,f5,λb N ho=>?_⟩;have r:=f5.eB l;rw[D,f4,ho]at r;exact aE.PW r.1 r.2 λi hi=>List.all_eq_true.1 h3 i (List.mem_range.2 hi)
  have Z:∀{l:Nat}{H1:AH}{s:List UInt8}{rw:Access},od H l=z H1->H1.get l= .str s rw->
    H1.n=H.n/\∀c ρ w,Rel c ρ H w->∃ρ',Ext ρ ρ'/\Rel c ρ' H1 w/\∀b N,ρ l=z (b,N)->∃C,tI ρ' b 0 ((b_ s.length).flatMap C)/\∀i,i<s.length->(C i).length=1/\aV ρ'.bare (fu s i) (C i):=by
   intro l H1 s rw q D;refine⟨?_,λc ρ w p=>?_⟩
   ·unfold od at q;split at q<;>cases q<;>rfl
   ·obtain⟨f1,Y,_,E,f3,f4,f5⟩:=C7 q p;have U:rw= .ro:=by
     rw[D]at f1;cases r:H.get l<;>rw[r]at f1 Y<;>simp[aae.qz,aae.yr]at f1 Y;exact f1.2
    subst U;refine⟨E,f3,f5,λb N ho=>?_⟩;have r:=(f5.eB l).un;rw[D,f4,ho]at r;exact aE.PW (e:=1) r.1 r.2 λi hi=>rfl
  cases a with
  |ptr l k e j=>
   simp only[tK]at h;split at h
   ·rename_i H1 q;split at h
    ·rename_i cs rw D;obtain⟨P,H2,T,I,G⟩:=F q D h;refine⟨_,H2,T,I,λc ρ w v p g=>?_⟩;simp only[VR]at g;obtain⟨b,N,r,rfl⟩:=g;obtain⟨ρ',g1,g2,g3⟩:=G c ρ w p;obtain⟨vs,rest,g4,J,g6,g7⟩:=g3 b N r;refine⟨ρ',g1,g2,?_⟩;simp only[VR];exact⟨b,0,vs,zA,tI.all (ρ:=ρ'.bare) g7 g6,g4⟩
    ·rename_i n e' f rw D;obtain⟨h3,h4⟩:=hX.ag _ _ h;simp only[ba,bl]at h3;split at h4
     ·rename_i ap;subst ap;obtain⟨I,G⟩:=S q D h3.1;refine⟨_,H1,h4,I,λc ρ w v p g=>?_⟩;simp only[VR]at g;obtain⟨b,N,r,rfl⟩:=g;obtain⟨ρ',g1,g2,g3⟩:=G c ρ w p;obtain⟨C,g4,J⟩:=g3 b N r;refine⟨ρ',g1,g2,?_⟩;simp only[VR];have:=g4.row (λi hi=>(J i hi).1) h3.2;simp only[d_]at this;exact⟨b,k*e,C k,zA,this,(J k h3.2).2⟩
     ·exact absurd h4 hX.fail
    ·exact zR
   ·exact zR
  |slice l base k len cap e=>
   simp only[tK]at h;split at h
   ·rename_i H1 q;split at h
    ·rename_i cs rw D;obtain⟨P,H2,T,I,G⟩:=F q D h;obtain⟨aa,T⟩:=hX.ag _ _ T;simp only[bl]at aa;refine⟨_,H2,T,I,λc ρ w v p g=>?_⟩;simp only[VR]at g;obtain⟨b,N,V,a,r,rfl,hl,L,_⟩:=g;obtain⟨ρ',g1,g2,g3⟩:=G c ρ w p;obtain⟨vs,rest,g4,J,g6,g7⟩:=g3 b N r;refine⟨ρ',g1,g2,?_⟩;simp only[VR];obtain⟨g8,g9⟩:=tI.rows (ρ:=ρ'.bare) g7 g6 (o:=base+k*e) (e:=e) (len:=len) O;exact .inr ⟨b,base+k*e,V,a,_,rfl,hl,λhp=>⟨(L O).1,g8,λi hi=>⟨g9 i hi,(g4.drop _).take _⟩⟩⟩
    ·rename_i n e' f rw D;split at h
     ·rename_i hc;obtain⟨rfl,rfl⟩:=hc;obtain⟨h3,h4⟩:=hX.ag _ _ h;simp only[ba,bl]at h3;obtain⟨I,G⟩:=S q D h3.1;refine⟨_,H1,h4,I,λc ρ w v p g=>?_⟩;simp only[VR]at g;obtain⟨b,N,V,a,r,rfl,hl,L,_⟩:=g;obtain⟨ρ',g1,g2,g3⟩:=G c ρ w p;obtain⟨C,g4,J⟩:=g3 b N r;refine⟨ρ',g1,g2,?_⟩;simp only[VR];have:=g4.part (λi hi=>(J i hi).1) h3.2;simp only[d_]at this;refine .inr ⟨b,k*e,V,a,λi=>C (k+i),rfl,hl,λhp=>⟨by rw[(L O).1,d_],this,λi hi=>J _ O⟩⟩
     ·exact zR
    ·rename_i s rw D;split at h
     ·rename_i hc;obtain⟨rfl,rfl⟩:=hc;obtain⟨h3,h4⟩:=hX.ag _ _ h;simp only[bl]at h3;obtain⟨I,G⟩:=Z q D;refine⟨_,H1,h4,I,λc ρ w v p g=>?_⟩;simp only[VR]at g;obtain⟨b,N,V,a,r,rfl,hl,L,_⟩:=g;obtain⟨ρ',g1,g2,g3⟩:=G c ρ w p;obtain⟨C,g4,J⟩:=g3 b N r;refine⟨ρ',g1,g2,?_⟩;simp only[VR];have:=g4.part (λi hi=>(J i hi).1) h3;simp only[d_]at this;refine .inr ⟨b,k*1,V,a,λi=>C (k+i),rfl,hl,λhp=>⟨by rw[(L O).1,d_],this,λi hi=>J _ O⟩⟩
     ·exact zR
    ·exact zR
   ·exact zR
  |own l len e=>
   simp only[tK]at h;split at h
   ·rename_i H1 q;split at h
    ·rename_i cs rw D;obtain⟨P,H2,T,I,G⟩:=F q D h;obtain⟨aa,T⟩:=hX.ag _ _ T;simp only[bl]at aa;refine⟨_,H2,T,I,λc ρ w v p g=>?_⟩;simp only[VR]at g;obtain⟨ρ',g1,g2,g3⟩:=G c ρ w p;refine⟨ρ',g1,g2,?_⟩;simp only[VR];rcases g with g|⟨b,N,V,r,rfl,hl,L⟩
     ·exact .inl g
     ·obtain⟨vs,rest,g4,J,g6,g7⟩:=g3 b N r;obtain⟨g8,g9⟩:=tI.rows (ρ:=ρ'.bare) g7 g6 (o:=0) (e:=e) (len:=len) O;simp only[d_]at g8 g9;exact .inr ⟨b,0,V,_,_,rfl,hl,λhp=>⟨rfl,g8,λi hi=>⟨g9 i hi,(g4.drop _).take _⟩⟩⟩
    ·rename_i n e' f rw D;split at h
     ·rename_i hc;subst hc;obtain⟨h3,h4⟩:=hX.ag _ _ h;simp only[ba,bl]at h3;obtain⟨I,G⟩:=S q D h3.1;refine⟨_,H1,h4,I,λc ρ w v p g=>?_⟩;simp only[VR]at g;obtain⟨ρ',g1,g2,g3⟩:=G c ρ w p;refine⟨ρ',g1,g2,?_⟩;simp only[VR];rcases g with g|⟨b,N,V,r,rfl,hl,L⟩
      ·exact .inl g
      ·obtain⟨C,g4,J⟩:=g3 b N r;have:=g4.part (λi hi=>(J i hi).1) (k:=0) (m:=len) O;simp only[q_,r_,d_]at this;exact .inr ⟨b,0,V,_,C,rfl,hl,λhp=>⟨rfl,this,λi hi=>J i O⟩⟩
     ·exact zR
    ·rename_i s rw D;split at h
     ·rename_i hc;subst hc;obtain⟨h3,h4⟩:=hX.ag _ _ h;simp only[bl]at h3;obtain⟨I,G⟩:=Z q D;refine⟨_,H1,h4,I,λc ρ w v p g=>?_⟩;simp only[VR]at g;obtain⟨ρ',g1,g2,g3⟩:=G c ρ w p;refine⟨ρ',g1,g2,?_⟩;simp only[VR];rcases g with g|⟨b,N,V,r,rfl,hl,L⟩
      ·exact .inl g
      ·obtain⟨C,g4,J⟩:=g3 b N r;have:=g4.part (λi hi=>(J i hi).1) (k:=0) (m:=len) O;simp only[q_,r_,d_]at this;exact .inr ⟨b,0,V,_,C,rfl,hl,λhp=>⟨rfl,this,λi hi=>J i O⟩⟩
     ·exact zR
    ·exact zR
   ·exact zR
  |map l=>
   cases l with
   |none=>simp only[tK]at h;exact same _ A h
   |some l=>simp only[tK]at h;exact zR
  |yield l=>simp only[tK]at h;exact zR
  |fn f x y=>simp only[tK]at h;obtain⟨x',H1,q,D,h3⟩:=iy d x H _ h;obtain⟨y',H2,h4,h5,h6⟩:=iy d y H1 _ q;refine⟨_,H2,h4,h5.trans D,λc ρ w v p g=>?_⟩;simp only[VR]at g;obtain⟨us,vs,rfl,k1,k2⟩:=g;obtain⟨E,a1,a2,W⟩:=h3 c ρ w us p k1;obtain⟨Q,b1,b2,b3⟩:=h6 c E w vs a2 (aV.ext a1 _ _ k2);refine⟨Q,a1.trans b1,b2,?_⟩;simp only[VR];exact⟨us,vs,rfl,aV.ext b1.bare _ _ W,b3⟩
  |iface t x=>simp only[tK]at h;obtain⟨x',H1,q,D,h3⟩:=lz d x H _ h;refine⟨_,H1,q,D,λc ρ w v p g=>?_⟩;simp only[VR]at g;obtain⟨u,rfl,k1⟩:=g;obtain⟨E,a1,a2,W⟩:=h3 c ρ w u p k1;refine⟨E,a1,a2,?_⟩;simp only[VR];exact⟨u,rfl,W⟩
  |agg cs=>simp only[tK]at h;obtain⟨x',H1,q,D,h3⟩:=iy d cs H _ h;refine⟨_,H1,q,D,λc ρ w v p g=>?_⟩;simp only[VR]at g;obtain⟨us,rfl,k1⟩:=g;obtain⟨E,a1,a2,W⟩:=h3 c ρ w us p k1;refine⟨E,a1,a2,?_⟩;simp only[VR];exact⟨us,rfl,W⟩
  |bM cs=>simp only[tK]at h;obtain⟨x',H1,q,D,h3⟩:=iy d cs H _ h;refine⟨_,H1,q,D,λc ρ w v p g=>?_⟩;simp only[VR]at g;obtain⟨us,rfl,k1⟩:=g;obtain⟨E,a1,a2,W⟩:=h3 c ρ w us p k1;refine⟨E,a1,a2,?_⟩;simp only[VR];exact⟨us,rfl,W⟩
  |_=>simp only[tK]at h;exact same _ A h
theorem iy:∀(d:Nat)(a:List AV)(H:AH)(K:List AV->AH->R),sem (kJ X d a H K)->∃a' H',sem (K a' H')/\vq a H a' H'
 |0,a,H,K,h=>by simp only[kJ]at h;exact zR
 |d+1,[],H,K,h=>by simp only[kJ]at h;exact⟨[],H,h,rfl,λc ρ w v p g=>⟨ρ,Ext.refl ρ,p,by simpa only[aV]using g⟩⟩
 |d+1,a::as,H,K,h=>by simp only[kJ]at h;obtain⟨x,H1,q,D,h3⟩:=lz d a H _ h;obtain⟨y,H2,h4,h5,h6⟩:=iy d as H1 _ q;refine⟨_,H2,h4,h5.trans D,λc ρ w v p g=>?_⟩;simp only[aV]at g;obtain⟨u,us,rfl,k1,k2⟩:=g;obtain⟨E,a1,a2,W⟩:=h3 c ρ w u p k1;obtain⟨Q,b1,b2,b3⟩:=h6 c E w us a2 (aV.ext a1 _ _ k2);exact⟨Q,a1.trans b1,b2,aV.aM.2 ⟨VR.ext b1.bare _ _ W,b3⟩⟩
end
end
theorem af.pO{P:Program}{I:bg}{f:FuncId}{args args':List AV}{H H':AH}{o:CO}(b:vq args H args' H')(h:af P I f args' H' o):af P I f args H o:=by
 intro c ρ w vs hG d i;obtain⟨a,j,l,h3⟩:=b.2 c ρ w vs i d;have post:∀e w',o.post c a e w'->o.post c ρ e w':=λe w' m=>CO.gZ j m
 rcases h c a w vs hG (aV.ext (Ext.rD a) _ _ h3) l with⟨k1,k2⟩|⟨v,w',k1,k2⟩
 ·exact .inl ⟨k1,k2.mono post⟩
 grind
theorem af.yu{P:Program}{I:bg}{f:FuncId}{args:List AV}{H H1 H2:AH}{a a':AV}(h:af P I f args H (.ret a H1))(j:kc a H1 a' H2):af P I f args H (.ret a' H2):=by
 intro c ρ w vs hG l m;have post:∀e w',(CO.ret a H1).post c ρ e w'->(CO.ret a' H2).post c ρ e w':=by
  intro e w' d;cases e with
  |returned v=>obtain⟨i,k1,k2,o⟩:=d;obtain⟨b,g1,g2,g3⟩:=j.2 c i w' v k2 o;exact⟨b,k1.trans g1,g2,VR.ext (Ext.rD b) _ _ g3⟩
  |panicked q=>exact d.elim
  |outgrown=>exact d.elim
 rcases h c ρ w vs hG l m with⟨k1,k2⟩|⟨v,w',k1,k2⟩
 ·exact .inl ⟨k1,k2.mono post⟩
 grind
def fk(n0:Nat)(Q:AV->Prop):AV->AH->Prop:=λa H1=>tK RI.l3 100000 a H1 λa' H2=>B (g_ n0 H2.n) (Q a')
theorem af.ZR{P I}(hI:I.Ok P)(ks:List (ax P I)){i}(b:gv P I id i)(fuel){f args a'}
  (c:∀σ,a_ σ a' a') (h:ka ks i fuel f args (c_ I.G) (fk I.G λa=>a=a') (λ_ _=>False)):af P I f args (c_ I.G) (.ret a' (c_ I.G)):=by
 obtain⟨o,j,l⟩:=iJ hI ks b fuel f args (c_ I.G) _ _ h;cases o with
 |ret a H1=>
  obtain⟨x,H2,k1,k2⟩:=lz RI.dX _ _ _ _ j;cases d:g_ I.G H2.n with
  |false=>have k1:B (g_ I.G H2.n) (x=a'):=k1;rw[d]at k1;exact k1.elim
  |true=>have k1:B (g_ I.G H2.n) (x=a'):=k1;rw[d]at k1;have k1:x=a':=k1;subst k1;exact(l.yu k2).le (mM.of [] (ie.of (by rfl) A A A d (fI.2 λ_ _=>trivial)) (c _))
 |rL a H1=>exact j.elim
def ax.pure{P:Program}{I:bg}(f:FuncId)(spec:{R:Type}->RI R->List AV->(AV->R)->R)
  (ok:∀{R:Type}(X:RI R)(sem:R->Prop),X.Ok sem->∀args b,sem (spec X args b)->∃a,sem (b a)/\(∀σ,a.bx σ=a)/\(∀σ,bj.bx σ args=args)/\af P I f args (c_ I.G) (.ret a (c_ I.G))):ax P I where
 f:=f
 spec X args H b _:=kJ X 100000 args H λargs' H'=>spec X args' λa=>b a H'
 ok X sem hX args H b kp h:=by obtain⟨args',H',c,d⟩:=iy hX _ _ _ _ h;obtain⟨a,k1,k2,i,j⟩:=ok X sem hX _ _ c;exact⟨.ret a H',k1,(j.pure i k2 H').pO d⟩
end
def bY(cs:List AV)(e i:Nat):List AV:=(cs.drop (i*e)).take e
def an(n:Nat)(f g:Nat->List AV):Prop := ∀i,i<n->∀σ,bj.le σ (f i) (g i)
def aaX{n f}(h:∀σ i,bj.le σ (f i) (f i)):an n f f:=λi _ σ=>h σ i
def bh(a b:Nat)(K:Prop):Prop:=match M a b with|true=>K|false=>a=b/\K
def aS(a b:Int)(K:Prop):Prop:=match m_ (a=b)with|true=>K|false=>a=b/\K
def eX(a b:List UInt8)(K:Prop):Prop:=a=b/\K
def aaY{a b K}(h:a=b)(k:K):eX a b K:=⟨h,k⟩
def bh.ok{a b K}(h:bh a b K):a=b/\K:=by
 unfold bh at h;split at h
 all_goals simp_all
def aan{a b K}(h:a=b)(k:K):bh a b K:=by
 unfold bh
 grind
def aS.ok{a b K}(h:aS a b K):a=b/\K:=by
 unfold aS at h
 grind
def aag{a b K}(h:a=b)(k:K):aS a b K:=by
 unfold aS
 grind
def XF(c a:Option Nat)(K:Prop):Prop :=
 match a with
 |none=>K
 |some b=>match c with
  |some n=>bh n b K
  |none=>False
mutual
def AV.lq(σ:Nat->Nat):AV->AV->Prop->Prop
 |_,.any,K=>K
 | .bool a,.bool b,K=>a=b/\K
 | .int k x,.int u y,K=>B (m_ (k=u)) (aS x y K)
 | .str s,.str t,K=>eX s t K
 | .ptr a b c d,.ptr a' h i l,K=>B (M a (σ a')) (bh b h (bh c i (bh d l K)))
 | .nilPtr,.nilPtr,K=>K
 | .slice a b c d e f,.slice a' h i l m o,K=>B (M a (σ a')&&M b h&&M f o) (bh c i (bh d l (XF e m K)))
 | .aD,.aD,K=>K
 | .aD,.own _ n _,K=>bh n 0 K
 | .aD,.ae n _ _,K=>bh n 0 K
 | .own a b c,.own a' h i,K=>B (M a (σ a')&&M c i) (bh b h K)
 | .map h_,.map h_,K=>K
 | .map (z a),.map (z b),K=>B (M a (σ b)) K
 | .fn f a b,.fn o a' h,K=>B (M f o) (bj.lq σ a a' (bj.lq σ b h K))
 | .yield a,.yield b,K=>B (M a (σ b)) K
 | .jm,.jm,K=>K
 | .nilIface,.nilIface,K=>K
 | .iface t a,.iface v a',K=>B (M t v) (AV.lq σ a a' K)
 | .agg a,.agg b,K=>bj.lq σ a b K
 | .bM a,.bM b,K=>bj.lq σ a b K
 | .bW cs j,.bW q w,K=>B (M j w) (bj.lq σ cs q K)
 | .ae n e f,.ae C m g,K=>B (M e m) (bh n C (an n f g/\K))
 | .addr a b,.addr a' h,K=>bh a a' (bh b h K)
 |_,_,_=>False
def bj.lq(σ:Nat->Nat):List AV->List AV->Prop->Prop
 |[],[],K=>K
 |a::as,b::D,K=>AV.lq σ a b (bj.lq σ as D K)
 |_,_,_=>False
end
def aaZ{b x}(h:B b x):b=true/\x:=by
 cases b with
 |true=>exact⟨rfl,h⟩
 |false=>exact h.elim
def Uu{c a K}(h:XF c a K):(∀x,a=z x->c=z x)/\K:=by
 unfold XF at h;split at h
 grind
 ·split at h
  ·obtain⟨rfl,b⟩:=bh.ok h;grind
  ·exact h.elim
mutual
def AV.fj{σ:Nat->Nat}:∀(a b:AV)(K:Prop),AV.lq σ a b K->a_ σ a b/\K
 | .bool _,b,K,h=>by cases b<;>simp only[AV.lq]at h<;>simp only[a_]<;>simp_all
 | .int _ _,b,K,h=>by
  cases b<;>simp only[AV.lq]at h<;>simp only[a_]
  ·obtain⟨d,c⟩:=aaZ h;obtain⟨c,h3⟩:=aS.ok c;simp only[bl]at d;exact⟨⟨d,c⟩,h3⟩
  ·exact⟨trivial,h⟩
 | .str _,b,K,h=>by cases b<;>simp only[AV.lq]at h<;>simp only[a_]<;>first|exact h|exact⟨trivial,h⟩
 | .ptr _ _ _ _,b,K,h=>by
  cases b<;>simp only[AV.lq]at h<;>simp only[a_]
  ·obtain⟨d,c⟩:=aaZ h;obtain⟨c,h3⟩:=bh.ok c;obtain⟨h3,h4⟩:=bh.ok h3;obtain⟨h4,f⟩:=bh.ok h4;exact⟨⟨dV d,c,h3,h4⟩,f⟩
  ·exact⟨trivial,h⟩
 | .nilPtr,b,K,h=>by cases b<;>simp only[AV.lq]at h<;>simp only[a_]<;>simp_all
 | .slice _ _ _ _ _ _,b,K,h=>by
  cases b<;>simp only[AV.lq]at h<;>simp only[a_]
  ·obtain⟨d,c⟩:=aaZ h;obtain⟨c,h3⟩:=bh.ok c;obtain⟨h3,h4⟩:=bh.ok h3;obtain⟨f,j⟩:=Uu h4;simp only[ba]at d;exact⟨⟨dV d.1.1,dV d.1.2,c,h3,f,dV d.2⟩,j⟩
  ·exact⟨trivial,h⟩
 | .aD,b,K,h=>by cases b<;>simp only[AV.lq]at h<;>simp only[a_]<;>first|exact⟨trivial,h⟩|exact bh.ok h
 | .own _ _ _,b,K,h=>by
  cases b<;>simp only[AV.lq]at h<;>simp only[a_]
  ·obtain⟨d,c⟩:=aaZ h;obtain⟨c,h3⟩:=bh.ok c;simp only[ba]at d;exact⟨⟨dV d.1,c,dV d.2⟩,h3⟩
  ·exact⟨trivial,h⟩
 | .map h_,b,K,h=>by
  cases b with
  |map l=>cases l<;>simp only[AV.lq]at h;simp only[a_];exact⟨trivial,h⟩
  |any=>simp only[AV.lq]at h;simp only[a_];exact⟨trivial,h⟩
  |_=>simp only[AV.lq]at h
 | .map (z _),b,K,h=>by
  cases b with
  |map l=>cases l<;>simp only[AV.lq]at h;simp only[a_];obtain⟨d,c⟩:=aaZ h;exact⟨dV d,c⟩
  |any=>simp only[AV.lq]at h;simp only[a_];exact⟨trivial,h⟩
  |_=>simp only[AV.lq]at h
 | .fn _ x y,b,K,h=>by
  cases b<;>simp only[AV.lq]at h<;>simp only[a_]
  ·obtain⟨d,c⟩:=aaZ h;obtain⟨h3,h4⟩:=bj.fj x _ _ c;obtain⟨f,j⟩:=bj.fj y _ _ h4;exact⟨⟨dV d,h3,f⟩,j⟩
  ·exact⟨trivial,h⟩
 | .yield _,b,K,h=>by
  cases b<;>simp only[AV.lq]at h<;>simp only[a_]
  ·obtain⟨d,c⟩:=aaZ h;exact⟨dV d,c⟩
  ·exact⟨trivial,h⟩
 | .jm,b,K,h=>by cases b<;>simp only[AV.lq]at h<;>simp only[a_]<;>simp_all
 | .nilIface,b,K,h=>by cases b<;>simp only[AV.lq]at h<;>simp only[a_]<;>simp_all
 | .iface _ x,b,K,h=>by
  cases b<;>simp only[AV.lq]at h<;>simp only[a_]
  ·obtain⟨d,c⟩:=aaZ h;obtain⟨h3,h4⟩:=AV.fj x _ _ c;exact⟨⟨dV d,h3⟩,h4⟩
  ·exact⟨trivial,h⟩
 | .agg x,b,K,h=>by
  cases b<;>simp only[AV.lq]at h<;>simp only[a_]
  ·exact bj.fj x _ _ h
  ·exact⟨trivial,h⟩
 | .bM x,b,K,h=>by
  cases b<;>simp only[AV.lq]at h<;>simp only[a_]
  ·exact bj.fj x _ _ h
  ·exact⟨trivial,h⟩
 | .addr _ _,b,K,h=>by
  cases b<;>simp only[AV.lq]at h<;>simp only[a_]
  ·exact⟨trivial,h⟩
  ·obtain⟨d,c⟩:=bh.ok h;obtain⟨h3,h4⟩:=bh.ok c;exact⟨⟨d,h3⟩,h4⟩
 | .any,b,K,h=>by cases b<;>simp only[AV.lq]at h<;>simp only[a_]<;>simp_all
 | .bW x _,b,K,h=>by
  cases b<;>simp only[AV.lq]at h<;>simp only[a_]
  ·exact⟨trivial,h⟩
  ·obtain⟨d,c⟩:=aaZ h;obtain⟨h3,h4⟩:=bj.fj x _ _ c;exact⟨⟨h3,dV d⟩,h4⟩
 | .ae _ _ _,b,K,h=>by
  cases b<;>simp only[AV.lq]at h<;>simp only[a_]
  ·exact⟨trivial,h⟩
  ·obtain⟨d,c⟩:=aaZ h;obtain⟨c,h3,h4⟩:=bh.ok c;exact⟨⟨c,dV d,λi hi=>h3 i hi σ⟩,h4⟩
def bj.fj{σ:Nat->Nat}:∀(a b:List AV)(K:Prop),bj.lq σ a b K->bj.le σ a b/\K
 |[],[],K,h=>⟨by simp only[bj.le],h⟩
 |a::as,b::m,K,h=>by simp only[bj.lq]at h;obtain⟨d,c⟩:=AV.fj a _ _ h;obtain⟨h3,h4⟩:=bj.fj as _ _ c;exact⟨by simp only[bj.le];exact⟨d,h3⟩,h4⟩
 |[],_::_,K,h=>by simp only[bj.lq]at h
 |_::_,[],K,h=>by simp only[bj.lq]at h
end
def Tr.lq(σ:Nat->Nat):Tr AV->Tr AV->Prop->Prop
 |_,.e,K=>K
 | .e,.n l v r,K=>Tr.lq σ .e l (match v with|none=>Tr.lq σ .e r K|some a=>AV.lq σ .any a (Tr.lq σ .e r K))
 | .n l v r,.n d f c,K=>Tr.lq σ l d (match f with|none=>Tr.lq σ r c K|some b=>match v with|some a=>AV.lq σ a b (Tr.lq σ r c K)|none=>AV.lq σ .any b (Tr.lq σ r c K))
def Tr.fj{σ}:∀(t f)(K),Tr.lq σ t f K->n_ σ t f/\K
 | .e,.e,K,h=>⟨by simp only[n_],zI⟩
 | .n _ _ _,.e,K,h=>⟨by simp only[n_],zI⟩
 | .e,.n l v r,K,h=>by
  simp only[Tr.lq]at h;obtain⟨j,c⟩:=Tr.fj _ _ _ h;cases v with
  |none=>obtain⟨h3,h4⟩:=Tr.fj _ _ _ c;exact⟨by simp only[n_];grind,h4⟩
  |some a=>obtain⟨h3,h4⟩:=AV.fj _ _ _ c;obtain⟨i,d⟩:=Tr.fj _ _ _ h4;exact⟨by simp only[n_];grind,d⟩
 | .n l v r,.n o m q,K,h=>by
  simp only[Tr.lq]at h;obtain⟨j,c⟩:=Tr.fj _ _ _ h;cases m with
  |none=>
   obtain⟨h3,h4⟩:=Tr.fj _ _ _ c;refine⟨?_,h4⟩;simp only[n_]
   grind
  |some b=>
   cases v with
   |none=>obtain⟨h3,h4⟩:=AV.fj _ _ _ c;obtain⟨i,d⟩:=Tr.fj _ _ _ h4;exact⟨by simp only[n_];grind,d⟩
   |some a=>obtain⟨h3,h4⟩:=AV.fj _ _ _ c;obtain⟨i,d⟩:=Tr.fj _ _ _ h4;exact⟨by simp only[n_];grind,d⟩
def Access.Uv:Access->Access->Bool
 | .ro,.ro=>true
 | .wr,.wr=>true
 | .ty _,.wr=>true
 | .ty e,.ty a=>M e a
 | .ex m,.ex b=>M m b
 |_,_=>false
def Access.yv:∀{a b:Access},a.Uv b=true->a.le b
 | .ro,.ro,_=>trivial
 | .wr,.wr,_=>trivial
 | .ty _,.wr,_=>trivial
 | .ty _,.ty _,h=>dV h
 | .ro,.wr,h=>zE
 | .ro,.ty _,h=>zE
 | .wr,.ro,h=>zE
 | .wr,.ty _,h=>zE
 | .ty _,.ro,h=>zE
 | .ex _,.ex _,h=>dV h
 | .ex _,.ro,h=>zE
 | .ex _,.wr,h=>zE
 | .ex _,.ty _,h=>zE
 | .ro,.ex _,h=>zE
 | .wr,.ex _,h=>zE
 | .ty _,.ex _,h=>zE
def Zq(σ:Nat->Nat):List (AV×AV)->List (AV×AV)->Prop->Prop
 |[],[],K=>K
 |a::as,b::c,K=>AV.lq σ a.1 b.1 (AV.lq σ a.2 b.2 (Zq σ as c K))
 |_,_,_=>False
def PX{σ}:∀(a b)(K),Zq σ a b K->(bj.le σ (a.map (·.1)) (b.map (·.1))/\bj.le σ (a.map (·.2)) (b.map (·.2)))/\K
 |[],[],K,h=>⟨by simp[bj.le],h⟩
 |a::as,b::c,K,h=>by simp only[Zq]at h;obtain⟨f,d⟩:=AV.fj _ _ _ h;obtain⟨h3,h4⟩:=AV.fj _ _ _ d;obtain⟨⟨g,i⟩,e⟩:=PX as c _ h4;exact⟨by simp only[List.map_cons,bj.le];grind,e⟩
 |[],_::_,K,h=>by simp only[Zq]at h
 |_::_,[],K,h=>by simp only[Zq]at h
def aH(a b:Code):Prop:=a=b
def PY:LoopState->LoopState->Bool
 | .ready,.ready=>true
 | .busy,.busy=>true
 | .done,.done=>true
 |_,_=>false
def EG:∀{a b},PY a b=true->a=b
 | .ready,.ready,_=>rfl
 | .busy,.busy,_=>rfl
 | .done,.done,_=>rfl
 | .ready,.busy,h=>zE
 | .ready,.done,h=>zE
 | .busy,.ready,h=>zE
 | .busy,.done,h=>zE
 | .done,.ready,h=>zE
 | .done,.busy,h=>zE
def yw:List Nat->List Nat->Bool
 |[],[]=>true
 |a::as,b::c=>M a b&&yw as c
 |_,_=>false
def vr:∀{a b},yw a b=true->a=b
 |[],[],_=>rfl
 |a::as,b::c,h=>by simp only[yw,ba]at h;rw[dV h.1,vr h.2]
 |[],_::_,h=>zE
 |_::_,[],h=>zE
def Kh:Bool->Bool->Bool
 |true,true=>true
 |false,false=>true
 |_,_=>false
def HI:∀{a b},Kh a b=true->a=b
 |true,true,_=>rfl
 |false,false,_=>rfl
def HJ(n:Nat)(f g:Nat->Int):Prop := ∀i,i<n->f i=g i
def HJ.same{n f}:HJ n f f:=λ_ _=>rfl
def XG(n:Nat)(f g:Nat->List Int)(P Q:Nat->AV):Prop := ∀i,i<n->f i=g i/\∀σ,a_ σ (P i) (Q i)
def EH(σ:Nat->Nat):Option (Nat×AV)->Option (Nat×AV)->Prop->Prop
 |_,h_,K=>K
 |some (j,a),z (b,a'),K=>bh j b (AV.lq σ a a' K)
 |none,z _,_=>False
def PZ{σ}:∀(x y)(K),EH σ x y K->(∀j a',y=z (j,a')->∃a,x=z (j,a)/\a_ σ a a')/\K
 |_,h_,K,h=>⟨zA,zI⟩
 |some (j,a),z (c,a'),K,h=>by
  simp only[EH]at h;obtain⟨rfl,b⟩:=bh.ok h;obtain⟨h3,h4⟩:=AV.fj _ _ _ b
  grind
 |none,z _,_,h=>by simp only[EH]at h
def aae.lq(σ:Nat->Nat):aae->aae->Prop->Prop
 |_,.dead,K=>K
 | .cells cs rw,.cells v a,K=>B (rw.Uv a) (bj.lq σ cs v K)
 | .rows n e f rw,.rows o H g a,K=>B (rw.Uv a&&M e H) (bh n o (an n f g/\K))
 | .cells cs rw,.rows n e g a,K=>B (rw.Uv a&&k_ 0 e) (bh cs.length (n*e) (an n (bY cs e) g/\K))
 | .str s rw,.str w a,K=>B (rw.Uv a) (eX s w K)
 | .rows n _ f rw,.cells cs a,K=>B (rw.Uv a) (bj.lq σ (rowsOf n f) cs K)
 | .map es,.map q,K=>B (Kh (dZ es) (dZ q)) (Zq σ (iE es) (iE q) K)
 | .tL,.tL,K=>K
 | .iter l,.iter y,K=>B (M l (σ y)) K
 | .jn n f,.jn o g,K=>bh n o (HJ n f g/\K)
 | .map es,.jn n _,K=>match es with|[]=>bh 0 n K|_::_=>False
 | .gy l s S,.gy y w I,K=>B (M l (σ y)) (bh s w (S=I/\K))
 | .dK n f P b,.dK o g Q u,K=>bh n o (XG n f g P Q/\EH σ b u K)
 | .map es,.dK n _ _ b,K=>match es,b with|[],h_=>bh 0 n K|_,_=>False
 | .loop C h_ t nt D as E df,.loop c h_ F d h i j m,K=>B (PY C c&&M nt d&&yw D h&&M df (σ m)) (aH as i/\aH E j/\Tr.lq σ t F K)
 | .loop C (z J) t nt D as E df,.loop c (z G) F d h i j m,K=>B (PY C c&&M nt d&&yw D h&&M df (σ m)) (aH J G/\aH as i/\aH E j/\Tr.lq σ t F K)
 |_,_,_=>False
def aae.fj{σ}(a b)(K)(h:aae.lq σ a b K):a.le σ b/\K:=by
 unfold aae.lq at h;split at h
 ·exact⟨by simp only[aae.le],h⟩
 ·obtain⟨c,d⟩:=aaZ h;obtain⟨h3,h4⟩:=bj.fj _ _ _ d;exact⟨⟨h3,Access.yv c⟩,h4⟩
 ·obtain⟨c,d⟩:=aaZ h;obtain⟨d,h3,h4⟩:=bh.ok d;simp only[ba]at c;exact⟨⟨d,by simp_all,λi hi=>h3 i hi σ,Access.yv c.1⟩,h4⟩
 ·obtain⟨c,d⟩:=aaZ h;obtain⟨d,h3,h4⟩:=bh.ok d;simp only[ba,i_]at c;exact⟨⟨d,λi hi=>h3 i hi σ,c.2,Access.yv c.1⟩,h4⟩
 ·obtain⟨c,d,h3⟩:=aaZ h;exact⟨⟨d,Access.yv c⟩,h3⟩
 ·obtain⟨c,d⟩:=aaZ h;obtain⟨h3,h4⟩:=bj.fj _ _ _ d;exact⟨⟨h3,Access.yv c⟩,h4⟩
 ·obtain⟨j,h⟩:=aaZ h;obtain⟨c,d⟩:=PX _ _ _ h;exact⟨⟨HI j,c⟩,d⟩
 ·exact⟨trivial,h⟩
 ·obtain⟨c,d⟩:=aaZ h;exact⟨dV c,d⟩
 ·obtain⟨c,d,h3⟩:=bh.ok h;exact⟨⟨c,d⟩,h3⟩
 ·split at h
  ·obtain⟨c,d⟩:=bh.ok h;exact⟨⟨rfl,c.symm⟩,d⟩
  ·exact h.elim
 ·obtain⟨c,d⟩:=aaZ h;obtain⟨h3,h4,f⟩:=bh.ok d;exact⟨⟨dV c,h3,h4⟩,f⟩
 ·obtain⟨c,d,h3⟩:=bh.ok h;obtain⟨h4,f⟩:=PZ _ _ _ h3;exact⟨⟨c,λi hi=>(d i hi).1,λi hi=>(d i hi).2 σ,h4⟩,f⟩
 ·split at h
  ·obtain⟨c,d⟩:=bh.ok h;exact⟨⟨rfl,c.symm,rfl⟩,d⟩
  ·exact h.elim
 ·obtain⟨c,d,h3,h4⟩:=aaZ h;obtain⟨f,l⟩:=Tr.fj _ _ _ h4;simp only[ba]at c;exact⟨⟨EG c.1.1.1,rfl,f,by simp_all,vr c.1.2,d,h3,by simp_all⟩,l⟩
 ·obtain⟨c,j,d,h3,h4⟩:=aaZ h;obtain⟨f,l⟩:=Tr.fj _ _ _ h4;simp only[ba]at c;exact⟨⟨EG c.1.1.1,congrArg z j,f,by simp_all,vr c.1.2,d,h3,by simp_all⟩,l⟩
 ·exact h.elim
mutual
def AV.hY:AV->AV->List (Nat×Nat)->List (Nat×Nat)
 | .ptr l _ _ _,.ptr c _ _ _,K=>(c,l)::K
 | .slice l _ _ _ _ _,.slice c _ _ _ _ _,K=>(c,l)::K
 | .own l _ _,.own c _ _,K=>(c,l)::K
 | .map (z l),.map (z c),K=>(c,l)::K
 | .yield l,.yield c,K=>(c,l)::K
 | .fn _ a b,.fn _ a' d,K=>bj.hY a a' (bj.hY b d K)
 | .iface _ a,.iface _ a',K=>AV.hY a a' K
 | .agg a,.agg b,K=>bj.hY a b K
 | .bM a,.bM b,K=>bj.hY a b K
 |_,_,K=>K
def bj.hY:List AV->List AV->List (Nat×Nat)->List (Nat×Nat)
 |a::as,b::f,K=>AV.hY a b (bj.hY as f K)
 |_,_,K=>K
end
def Tr.hY:Tr AV->Tr AV->List (Nat×Nat)->List (Nat×Nat)
 | .n l v r,.n d f c,K=>Tr.hY l d (match v with|some a=>(match f with|some b=>AV.hY a b (Tr.hY r c K)|none=>Tr.hY r c K)|none=>Tr.hY r c K)
 |_,_,K=>K
def aae.hY:aae->aae->List (Nat×Nat)
 | .cells a _,.cells b _=>bj.hY a b []
 | .map a,.map b=>bj.hY (a.map (·.2)) (b.map (·.2)) []
 | .gy l _ _,.gy c _ _=>[(c,l)]
 | .dK _ _ _ (z a),.dK _ _ _ (z b)=>AV.hY a.2 b.2 []
 |_,_=>[]
def look(x:Nat):List (Nat×Nat)->Option Nat
 |[]=>h_
 |(a,b)::r=>bif M a x then z b else look x r
def Ki(n0:Nat)(H H':AH):Nat->List (Nat×Nat)->List (Nat×Nat)->List (Nat×Nat)
 |0,acc,_=>acc
 |_+1,acc,[]=>acc
 |d+1,acc,(a,b)::r=>bif k_ a n0 then Ki n0 H H' d acc r else match look a acc with
  |some _=>Ki n0 H H' d acc r
  |none=>Ki n0 H H' d ((a,b)::acc) ((H.get b).hY (H'.get a)++r)
def EI(H H':AH):Nat->List (Nat×Nat)->List (Nat×Nat)
 |0,K=>K
 |n+1,K=>EI H H' n ((H.get n).hY (H'.get n)++K)
def yx(n0:Nat)(H H':AH)(a:List (Nat×Nat)):List Nat :=
 (b_ (H'.n-n0)).map λq=>match look (n0+q) (Ki n0 H H' 1000 [] (EI H H' n0 a))with|some x=>x|none=>H.n+(n0+q)
def P0:aae->Prop->Prop
 | .cells [] _,K=>K
 | .rows n _ _ _,K=>bh n 0 K
 | .str s _,K=>eX s [] K
 |_,_=>False
def P1{b K}(h:P0 b K):b.nothing/\K:=by
 unfold P0 at h;split at h
 ·exact⟨rfl,h⟩
 ·exact bh.ok h
 ·exact h
 ·exact h.elim
def tj(σ:Nat->Nat)(N:Nat)(H H':AH):Nat->Prop->Prop
 |0,K=>K
 |n+1,K=>match H'.get n with
  | .dead=>tj σ N H H' n K
  |b=>match k_ (σ n) N with
   |true=>aae.lq σ (H.get (σ n)) b (tj σ N H H' n K)
   |false=>P0 b (tj σ N H H' n K)
def HK(n0:Nat)(a:List Nat)(H H':AH)(K:Prop):Prop :=
 B (M (n0+a.length) H'.n&&(a.all λx=>g_ n0 x||(H'.get x).C5)&&vo a&&H'.Us&&g_ n0 H.n) (tj (sig n0 a H.n) H.n H H' H'.n K)
def Bw{σ N H H'}:∀{n K},tj σ N H H' n K->(∀l,l<n->wm σ N l H (H'.get l))/\K
 |0,K,h=>⟨O,h⟩
 |n+1,K,h=>by
  have key:wm σ N n H (H'.get n)/\tj σ N H H' n K:=by
   unfold tj at h;split at h
   ·rename_i e;rw[e];exact⟨trivial,h⟩
   ·rename_i b;unfold wm;split
    grind
    ·split at h
     ·rename_i c;obtain⟨d,f⟩:=aae.fj _ _ _ h;simp_all
     ·rename_i c;rw[if_neg (by intro a;rw[<-i_]at a;grind)];exact P1 h
  obtain⟨d,f⟩:=Bw key.2
  grind
def Bx{n0:Nat}{a:List Nat}{H H':AH}{K:Prop}(h:HK n0 a H H' K):ie n0 a H H'/\K:=by
 obtain⟨b,c⟩:=aaZ h;obtain⟨h3,h4⟩:=Bw c;simp only[ba]at b;obtain⟨⟨⟨⟨a1,a2⟩,d⟩,a4⟩,e⟩:=b;exact⟨ie.of (by simp_all) a2 d a4 e (fI.2 h3),h4⟩
def xw:List Nat->List Nat->Bool
 |[],[]=>true
 |a::as,b::c=>M a b&&xw as c
 |_,_=>false
def yy:∀{a b},xw a b=true->a=b
 |[],[],_=>rfl
 |a::as,b::c,h=>by simp only[xw,ba]at h;rw[dV h.1,yy h.2]
 |[],_::_,h=>zE
 |_::_,[],h=>zE
def oH(n0:Nat)(s a:St)(K:Prop):Prop :=
 HK n0 (yx n0 s.H a.H (Tr.hY s.t a.t [])) s.H a.H
  (B (M s.nt a.nt&&xw s.df (a.df.map (sig n0 (yx n0 s.H a.H (Tr.hY s.t a.t [])) s.H.n)))
   (Tr.lq (sig n0 (yx n0 s.H a.H (Tr.hY s.t a.t [])) s.H.n) s.t a.t K))
def oH.ok{n0 s a K}(h:oH n0 s a K):St.Le n0 s a/\K:=by
 obtain⟨b,c⟩:=Bx h;obtain⟨h3,h4⟩:=aaZ c;obtain⟨d,f⟩:=Tr.fj _ _ _ h4;simp only[ba]at h3;exact⟨St.ZQ _ b (by simp_all) d (yy h3.2),f⟩
def qn(n0:Nat)(a:AV)(H:AH)(a':AV)(H':AH)(K:Prop):Prop :=
 HK n0 (yx n0 H H' (AV.hY a a' [])) H H' (AV.lq (sig n0 (yx n0 H H' (AV.hY a a' [])) H.n) a a' K)
def qn.ok{n0 a a' H H' K}(h:qn n0 a H a' H' K):mM n0 a H a' H'/\K:=by
 obtain⟨b,c⟩:=Bx h;obtain⟨h3,h4⟩:=AV.fj _ _ _ c;exact⟨mM.of _ b h3,h4⟩
inductive GE where
 |one (e:aK)
 |cond (b:Bool) (x a:GE)
def GE.pick:GE->aK
 | .one e=>e
 | .cond b x y=>match b with|true=>x.pick|false=>y.pick
def aK.run{R:Type}(k:KS R):aK->R
 | .n s=>k.n s
 | .x i s=>k.x i s
 | .g i s=>k.g i s
 | .r s=>k.r s
 | .p a s=>k.p a s
def aK.rW{R sem}{k:KS R}{e:aK}(h:sem (e.run k)):e.sem sem k:=by cases e<;>exact h
def GE.run(k:KS Prop):GE->Prop
 | .one e=>e.run k
 | .cond b x y=>ak b (x.run k) (y.run k)
def GE.rW{k}:∀{e:GE},e.run k->e.pick.sem id k
 | .one e,h=>zI
 | .cond b x y,h=>by
  cases b with
  |true=>exact GE.rW (e:=x) h
  |false=>exact GE.rW (e:=y) h
def ju(key:Nat):Code->Option Code
 | .seq a b=>match ju key a with|some c=>z c|none=>ju key b
 | .cond _ a b=>match ju key a with|some c=>z c|none=>ju key b
 | .block _ c=>ju key c
 | .scope c=>ju key c
 | .rangeFunc _ _ a b=>match ju key a with|some c=>z c|none=>ju key b
 | .loop c=>bif M (l5 c) key then z c else ju key c
 |_=>h_
def az(I:bg)(f:FuncId)(key:Nat):Code :=
 match I.body f with
 |some (c,_,_)=>match ju key c with|some c=>c|none=> .skip
 |none=> .skip
def iW:Code->Option (List Tmp×Code×Code)
 | .seq a b=>match iW a with|some c=>z c|none=>iW b
 | .cond _ a b=>match iW a with|some c=>z c|none=>iW b
 | .block _ c=>iW c
 | .scope c=>iW c
 | .rangeFunc _ d a b=>z (d.toList,a,b)
 | .loop c=>iW c
 |_=>h_
def aP(I:bg)(f:FuncId):Code :=
 match I.body f with
 |some (c,_,_)=>match iW c with|some (_,a,_)=>a|none=> .skip
 |none=> .skip
def aQ(I:bg)(f:FuncId):Code :=
 match I.body f with
 |some (c,_,_)=>match iW c with|some (_,_,b)=>b|none=> .skip
 |none=> .skip
structure ay (P:Program) (I:bg) (ir:Bool) (c:Code) (n0:Nat) (s:St) (g:GE):Prop where
 h:∀s0,s0.H.n=n0->St.Le n0 s0 s->eW P I ir (.code (.loop c)) s0 g.pick
abbrev l6:=List (Nat×Nat×St×GE)
def ZS(k:Nat):l6->Option (Nat×St×GE)
 |[]=>h_
 |(a,b)::r=>bif M a k then z b else ZS k r
def WQ(k n:Nat):l6->Option (Nat×St×GE)
 |[]=>h_
 |(a,b)::r=>bif M a k&&M b.1 n then z b else WQ k n r
def WR(k n:Nat)(T:l6):Option (Nat×St×GE):=match WQ k n T with|some x=>z x|none=>ZS k T
structure rX (P:Program) (I:bg) (ir:Bool) (r c:Code) (n0:Nat) (s:St) (g:GE):Prop where
 h:∀s0,s0.H.n=n0->St.Le n0 s0 s->eW P I ir (.inScope r c) s0 g.pick
def mO(P:Program)(I:bg)(T:l6):jf Prop:=λir t s=>match t with
 | .code (.loop c)=>match WR (l5 c) s.H.n T with
  |none=>h_
  |some (n0,a,g)=>z λk=>ay P I ir c n0 a g/\B (M s.H.n n0) (oH n0 s a (g.run k))
 | .inScope r c=>match WR (500000+l5 r) s.H.n T with
  |none=>h_
  |some (n0,a,g)=>z λk=>rX P I ir r c n0 a g/\B (M s.H.n n0) (oH n0 s a (g.run k))
 |_=>h_
def aX(P)(I)(T):gv P I id (mO P I T):=by
 intro ir t s g h k c;unfold mO at h;split at h
 ·split at h
  ·cases h
  ·cases h;obtain⟨b,a⟩:=c;obtain⟨d,a⟩:=aaZ a;obtain⟨h3,h4⟩:=oH.ok a;exact⟨_,GE.rW h4,b.h s (by simp_all) h3⟩
 ·split at h
  ·cases h
  ·cases h;obtain⟨b,a⟩:=c;obtain⟨d,a⟩:=aaZ a;obtain⟨h3,h4⟩:=oH.ok a;exact⟨_,GE.rW h4,b.h s (by simp_all) h3⟩
 ·cases h
structure Next {ι:Type} (n0:Nat) (a:ι->Prop) (b:ι->St) (E:ι->GE) (μ:ι->Nat) (i:ι) (s:St):Prop where
 h:∃c,a c/\μ c<μ i/\St.Le n0 s (b c)/\(E c).pick=(E i).pick
def HL(n0:Nat)(e:aK)(g:aK):Prop :=
 match e,g with
 | .n s,.n a=>oH n0 s a True
 | .x i s,.x j a=>B (M i j) (oH n0 s a True)
 | .g i s,.g j a=>B (M i j) (oH n0 s a True)
 | .r s,.r a=>oH n0 s a True
 |_,_=>False
def LY{n0 e g}(h:HL n0 e g):aK.Le n0 e g:=by
 unfold HL at h;split at h
 ·exact h.ok.1
 ·obtain⟨b,a⟩:=aaZ h;exact⟨by simp_all,a.ok.1⟩
 ·obtain⟨b,a⟩:=aaZ h;exact⟨by simp_all,a.ok.1⟩
 ·exact h.ok.1
 ·exact h.elim
def GE.meets(n0:Nat)(e:aK):GE->Prop
 | .one g=>HL n0 e g
 | .cond b x y=>ak b (x.meets n0 e) (y.meets n0 e)
def GE.fJ{n0 e}:∀{g:GE},g.meets n0 e->aK.Le n0 e g.pick
 | .one g,h=>LY h
 | .cond b x y,h=>by
  cases b with
  |true=>exact GE.fJ (g:=x) h
  |false=>exact GE.fJ (g:=y) h
def wo{ι:Type}(n0:Nat)(S:ι->St)(E:ι->GE)(a:ι->ι)(Q:Prop)(i:ι):KS Prop :=
 {n:=λs=>oH n0 s (S (a i)) Q
  x:=λb s=>(E i).meets n0 (.x b s)
  g:=λb s=>(E i).meets n0 (.g b s)
  r:=λs=>(E i).meets n0 (.r s)
  p:=λ_ _=>False}
def ay.of{P:Program}{I:bg}(hI:I.Ok P)(ks:List (ax P I)){t:jf Prop}(m:gv P I id t)(fuel:Nat){ι:Type}{c:Code}{ir:Bool}(n0:Nat)(J:ι->Prop)(S:ι->St)(E:ι->GE)(f:ι->Nat)(d:ι->ι)(o:ι)
  (u:g_ I.G n0=true) (v:J o)
  (j:∀i,J i->w7 ks t fuel ir (.code c) (S i) (wo n0 S E d (J (d i)/\f (d i)<f i/\(E (d i)).pick=(E i).pick) i)):ay P I ir c n0 (S o) (E o) where
 h s0 q w:=by
  subst q;refine th (S:=S) (E:=λi=>(E i).pick) (J:=J) f (by simp_all) v w λi hi=>?_
  obtain⟨e,l,y⟩:=pN hI ks m fuel ir _ _ _ (j i hi);refine⟨e,y,?_⟩;cases e with
  |n s=>obtain⟨k1,k2,C,D⟩:=oH.ok (K:=J (d i)/\f (d i)<f i/\(E (d i)).pick=(E i).pick) l;exact⟨d i,k2,C,k1,D⟩
  |x b s=>exact GE.fJ (g:=E i) l
  |g b s=>exact GE.fJ (g:=E i) l
  |r s=>exact GE.fJ (g:=E i) l
  |p a s=>assumption
abbrev zyN(a:Nat)(K:Prop):Prop:=bh a a K
abbrev zyI(a:Int)(K:Prop):Prop:=aS a a K
abbrev zyB(a:List UInt8)(K:Prop):Prop:=eX a a K
abbrev zyR(n:Nat)(f:Nat->List AV)(K:Prop):Prop:=an n f f/\K
def AH.one(G:Nat)(b:aae):AH:={n:=G+1,t:=Tr.set .e G b}
def AH.jB(G)(b)(l):(AH.one G b).get l=if l=G then b else .dead:=by
 simp only[AH.one,AH.get,Tr.bk,Tr.nK]
 grind
def af.ZT{P I f args args' a a' b d H l}(h:af P I f args (AH.one I.G b) (.ret a (AH.one I.G d)))(hG:I.G<=l)(hl:l<H.n)(E:H.get l=b)
  (F:∀σ,b.bx σ=b) (u:∀σ,d.bx σ=d) (h3:∀σ,σ I.G=l->bj.bx σ args=args') (h4:∀σ,σ I.G=l->a.bx σ=a') (v:b≠ .dead):af P I f args' H (.ret a' (H.set l d)):=by
 intro c ρ w vs q y s
 let σ:Nat->Nat:=λi=>if i<I.G then i else if i=I.G then l else H.n+(i-(I.G+1))
 have m:σ I.G=l:=by simp[σ]
 have o:∀i,i<I.G->σ i=i:=λi hi=>Y
 have j:∀i,I.G+1<=i->σ i=H.n+(i-(I.G+1)):=λi hi=>by
  grind
 have C:Sub I.G σ (AH.one I.G b) H :=
  {lt:=λi hi=>by
    have hi:i<I.G+1:=hi
    grind
   ge:=λi hi=>j i hi
   same:=λi hi=>by
    rw[AH.jB]at hi⊢
    grind
   inj:=Y
   eZ:=λg t=>⟨Nat.lt_succ_of_lt t,o g t⟩
   low:=λi hi=>by have hi:I.G+1<=i:=hi;rw[AH.jB,if_neg O]}
 have ht:EE σ (AH.one I.G b) (CO.ret a (AH.one I.G d)).heap H (H.set l d):=
  {n:=by show H.n=H.n+((I.G+1)-(I.G+1));omega
   old:=λi hi=>by
    show(H.set l d).get (σ i)=((AH.one I.G d).get i).bx σ;rw[AH.jB]at hi⊢;by_cases e:i=I.G
    ·rw[if_pos e,e,m,e_,u]
    grind
   new:=λi hi=>by have hi:I.G+1<=i:=hi;show(H.set l d).get (σ i)=((AH.one I.G d).get i).bx σ;rw[AH.jB,if_neg O,j i hi,s_ _ _ O,s.low _ O];rfl
   rest:=λi hi D=>by
    have:i≠l:=λe=>by have J:=D I.G (by rw[AH.jB,if_pos A];exact v);omega
    exact s_ _ _ O}
 have:=h.lift C ht;rw[h3 σ m]at this;have e:(CO.ret a (AH.one I.G d)).jt σ (H.set l d)= .ret a' (H.set l d):=by show CO.ret (a.bx σ) (H.set l d)=_;rw[h4 σ m]
 rw[e]at this;exact this c ρ w vs q y s
end
end Go.Sx
