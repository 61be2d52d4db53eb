/- Lemmas, part 6. -/
import Derived.Test.YtoijalagmmgkbaaGreatDoorX05
set_option linter.all false
set_option linter.defProp false
set_option maxRecDepth 1000000
namespace Go.Sx
open Go
open Nat renaming beq->M,le_of_not_lt->b_,zero_add->c_,ble->h_,blt_eq->i_,lt_of_lt_of_le->j_,succ_mul->l_,blt->m_,lt_of_not_le->p_,le_trans->r_,mul_le_mul_right->t_,zero_mul->v_,add_zero->w_
open Option renaming some->z,none->g_
open Classical renaming byContradiction->a_
open List renaming range->d_,append_assoc->k_,take_append_drop->s_,map_congr_left->u_
open AH renaming blank->e_,get_set_same->f_,pr->y_
open AV renaming bD->n_
open Decidable renaming decide->o_
noncomputable section
mutual
def VR.gR{σ:Nat->Nat}{ρ:Env}:∀(a:AV)(v:Value),VR ρ (a.bD σ) v->VR (ρ.fC σ) a v
 | .bool _,_,k=>zD
 | .int _ _,_,k=>zD
 | .str _,_,k=>zD
 | .nilPtr,_,k=>zD
 | .ptr l _ _ _,v,k=>by simp only[VR,n_]at k⊢;exact k
 | .slice l _ _ _ _ _,v,k=>by simp only[VR,n_]at k⊢;exact k
 | .aw,_,k=>zD
 | .own l len e,v,k=>by simp only[VR,n_]at k⊢;exact k
 | .map g_,_,k=>zD
 | .map (z l),v,k=>by simp only[VR,n_]at k⊢;exact k
 | .fn f first d,v,k=>by
  simp only[VR,n_]at k⊢
  obtain⟨us,vs,e,r,s⟩:=k
  exact⟨us,vs,e,aU.gR first us r,aU.gR d vs s⟩
 | .yield l,v,k=>by simp only[VR,n_]at k⊢;exact k
 | .aB,_,k=>zD
 | .addr _ _,_,k=>zD
 | .nilIface,_,k=>zD
 | .iface t a,v,k=>by
  simp only[VR,n_]at k⊢
  obtain⟨u,e,r⟩:=k
  exact⟨u,e,VR.gR a u r⟩
 | .agg cs,v,k=>by
  simp only[VR,n_]at k⊢
  obtain⟨vs,e,r⟩:=k
  exact⟨vs,e,aU.gR cs vs r⟩
 | .qP cs,v,k=>by
  simp only[VR,n_]at k⊢
  obtain⟨vs,e,r⟩:=k
  exact⟨vs,e,aU.gR cs vs r⟩
 | .any,_,_=>zB
 | .fc _ _,v,k=>by
  simp only[VR,n_]at k⊢
  obtain⟨b,q,vs,h,i,j⟩:=k
  exact⟨b,q,vs,h,i,j⟩
 | .ab _ _ _,v,k=>by
  simp only[VR,n_]at k⊢
  rcases k with k|⟨b,q,c,a,m,h,i,j⟩
  ·exact .inl k
  ·exact .inr ⟨b,q,c,a,m,h,i,j⟩
def aU.gR{σ:Nat->Nat}{ρ:Env}:∀(as:List AV)(vs:List Value),aU ρ (bt.bD σ as) vs->aU (ρ.fC σ) as vs
 |[],_,k=>by simpa only[aU,bt.bD]using k
 |a::as,vs,k=>by
  simp only[aU,bt.bD]at k⊢
  obtain⟨u,us,e,r,s⟩:=k
  exact⟨u,us,e,VR.gR a u r,aU.gR as us s⟩
end
def aJ.gR{σ:Nat->Nat}{ρ:Env}{w:World}{o:Option (Nat×Nat)}{cs:List AV}{rw:Access}(k:aJ ρ w o (bt.bD σ cs) rw):aJ (ρ.fC σ) w o cs rw:=by
 rcases k with⟨h,k⟩|⟨b,N,vs,rest,el,fr,h1,a,c,d,f⟩
 ·cases cs with
  |nil=>exact .inl ⟨rfl,k⟩
  |cons=>simp[bt.bD]at h
 ·exact .inr ⟨b,N,vs,rest,el,fr,h1,a,c,aU.gR _ _ d,f⟩
def bp.gR{σ:Nat->Nat}{ρ:Env}{w:World}{o:Option (Nat×Nat)}{b:eT}(k:bp ρ w o (b.bD σ)):bp (ρ.fC σ) w o b:=by
 cases b with
 |cells cs rw=>exact aJ.gR k
 |rows n e f rw=>
  refine⟨λi hi=>by have:=k.1 i hi;simpa only[bt.SF,List.length_map]using this,?_⟩
  have e1:bt.bD σ (rowsOf n f)=rowsOf n (λi=>bt.bD σ (f i)):=by
   simp only[bt.SF,rowsOf,List.map_flatMap]
  have:=k.2
  rw[<-e1]at this
  exact aJ.gR this
 |str s rw=>refine aJ.gR (σ:=σ) (cs:=byteCells s) ?_;rw[pZ];exact k
 |map es=>
  obtain⟨b,N,ms,h,v,y,⟨B,m,q,C,D⟩,E⟩:=k
  rw[qv]at m q
  rw[qu]at C
  refine⟨b,N,ms,h,v,y,⟨B,aU.gR _ _ ?_,aU.gR _ _ ?_,C,D⟩,λe=>E (by rw[e];rfl)⟩
  ·simpa [bt.SF,Function.comp_def]using m
  ·simpa [bt.SF,Function.comp_def]using q
 |loop F G t nt H as I df=>
  obtain⟨b,N,d,c,fn,vs,v,y,m,q⟩:=k
  refine⟨b,N,d,c,fn,vs,v,y,⟨m.1,λi=>?_⟩,q⟩
  have:=m.2 i
  unfold cR at this⊢
  rw[Tr.get_map]at this
  cases ht:t.get i with
  |none=>simp[VR]
  |some a=>rw[ht]at this;exact VR.gR _ _ (by simpa using this)
 |tE=>exact k
 |iter l=>exact k
 |iy n K=>exact k
 |dX l since S=>exact k
 |cT n K Q foc=>
  obtain⟨b,N,u,v,y,m,q⟩:=k
  refine⟨b,N,u,v,y,λi hi=>VR.gR _ _ (m i hi),λj a e=>?_⟩
  subst e
  exact⟨(q _ _ A).1,VR.gR _ _ (q _ _ A).2⟩
 |dead=>trivial
structure Sub (a:Nat) (σ:Nat->Nat) (H0 H:AH):Prop where
 lt:∀l,l<H0.n->σ l<H.n
 ge:∀l,H0.n<=l->σ l=H.n+(l-H0.n)
 same:∀l,H0.get l≠ .dead->H.get (σ l)=(H0.get l).bD σ
 inj:∀l l',H0.get l≠ .dead->H0.get l'≠ .dead->σ l=σ l'->l=l'
 fp:∀g,g<a->g<H0.n/\σ g=g
 low:∀l,H0.n<=l->H0.get l= .dead
structure Eb (σ:Nat->Nat) (H0 H0' H H':AH):Prop where
 n:H'.n=H.n+(H0'.n-H0.n)
 old:∀l,H0.get l≠ .dead->H'.get (σ l)=(H0'.get l).bD σ
 new:∀l,H0.n<=l->H'.get (σ l)=(H0'.get l).bD σ
 rest:∀l,l<H.n->(∀k,H0.get k≠ .dead->σ k≠l)->H'.get l=H.get l
def fw.iT(c:fw)(ρ:Env)(H0 H:AH)(σ:Nat->Nat)(w:World):fw :=
 {w0:=w
  Z:=λk=>c.Z k∨∃l N,H.get l≠ .dead/\(H.get l).rw=false/\ρ l=z (k,N)
  G:=c.G
  X:=λk=>c.X k∨∃l N,(H.get l).rw=true/\(∀j,H0.get j≠ .dead->σ j≠l)/\ρ l=z (k,N)
  E:=λl=>l<H0.n
  DI:=ρ.fC σ}
def zz{b:eT}(h:b.rw=true):b≠ .dead:=λe=>by rw[e]at h;cases h
def Rel.iT{c:fw}{ρ:Env}{H0 H:AH}{σ:Nat->Nat}{w:World}(h:Rel c ρ H w)(s:Sub c.G σ H0 H):Rel (c.iT ρ H0 H σ w) (ρ.fC σ) H0 w:=by
 have f:∀l,H0.get l≠ .dead->H.get (σ l)≠ .dead:=λl b=>by
  rw[s.same l b];exactλe=>b (eT.KP.1 e)
 have u:∀l,H0.get l≠ .dead->(H.get (σ l)).rw=(H0.get l).rw:=λl b=>by rw[s.same l b,eT.qw]
 have old:∀k,c.Z k∨c.X k->k<w.heap.size:=λk i=>j_ (h.gH k i).1 h.size
 refine⟨λl=>?_,λl j r N o v a q m=>?_,λl r N a q y=>?_,λk i=>⟨?_,rfl⟩,dw _,rfl,rfl,rfl,λl hl=>?_,λg B=>?_,λl r N b q hx=>?_,λl hl=>⟨hl,rfl⟩,s.low,h.qY,λl r N a q=>?_,λk i=>?_,λ_ _ e=>e⟩
 ·by_cases b:H0.get l= .dead
  ·rw[b];trivial
  ·have:=h.dF (σ l)
   rw[s.same l b]at this
   exact bp.gR this
 ·apply a_
  intro d
  have b:=zz a
  exact f j d (h.sep (σ l) (σ j) r N o (λe=>v (s.inj l j b d e)) Y q m)
 ·have b:=zz a
  have t:(H.get (σ l)).rw=true:=by rw[u l b];exact a
  rcases y with y|⟨j,o,d,C,m⟩
  ·exact h.gL _ r N t q y
  ·refine d (h.sep (σ l) j r N o (λe=>?_) t q m)
   grind
 ·rcases i with(i|⟨j,o,d,_,m⟩)|(i|⟨j,o,a,_,m⟩)
  ·exact old k (.inl i)
  ·exact h.lt d m
  ·exact old k (.inr i)
  ·exact h.lt (zz a) m
 ·show ρ (σ l)=g_
  exact h.top _ (by rw[s.ge l hl];omega)
 ·obtain⟨N,D⟩:=h.fp g B
  exact⟨N,by show ρ (σ g)=_;rw[(s.fp g B).2];exact D⟩
 ·rcases hx with hx|⟨j,o,a,E,m⟩
  ·exact h.hid _ r N (f l b) q hx
  ·exact f l b (h.sep j (σ l) r o N (λe=>E l b e.symm) a m q)
 ·exact h.pV (σ l) r N (by rw[u l (zz a)];exact a) q
 ·rcases i with i|⟨j,o,a,_,m⟩
  ·exact h.xw k i
  ·exact h.pV j k o a m
def Env.back(ρ ρ':Env)(n0 n:Nat):Env:=⟨λl=>if l<n then ρ l else ρ' (n0+(l-n)),ρ'.fz⟩
def Rel.KY{c:fw}{ρ ρ':Env}{H0 H j H':AH}{σ:Nat->Nat}{w w':World}(h:Rel c ρ H w)(s:Sub c.G σ H0 H)(d:Rel (c.iT ρ H0 H σ w) ρ' j w')(t:Eb σ H0 j H H'):
  Ext ρ (ρ.back ρ' H0.n H.n)/\(∀l,ρ.back ρ' H0.n H.n (σ l)=ρ' l)/\Rel c (ρ.back ρ' H0.n H.n) H' w':=by
 have F:H0.n<=j.n:=by
  refine b_ λP=>?_
  have:=(d.env j.n P).1
  omega
 have v:∀l,l<H.n->ρ.back ρ' H0.n H.n l=ρ l:=λl hl=>by simp[Env.back,hl]
 have B:∀l,ρ.back ρ' H0.n H.n (σ l)=ρ' l:=λl=>by
  by_cases hl:l<H0.n
  ·rw[v _ (s.lt l hl)]
   exact(d.env l hl).2.symm
  ·have:=s.ge l (b_ hl)
   simp only[Env.back,this]
   grind
 have hx:Ext ρ (ρ.back ρ' H0.n H.n):=by
  refine⟨λl x e=>?_,d.qZ⟩
  have:l<H.n:=p_ λF=>by rw[h.top l F]at e;cases e
  rw[v l this];exact e
 have bD:uy σ ρ' (ρ.back ρ' H0.n H.n):=⟨ZD,λ_ _ e=>e⟩
 have kind:∀l,(∃k,l=σ k/\H'.get l=(j.get k).bD σ)∨(l<H.n/\(∀k,H0.get k≠ .dead->σ k≠l)/\H'.get l=H.get l):=λl=>by
  by_cases hl:l<H.n
  ·by_cases f:∃k,H0.get k≠ .dead/\σ k=l
   ·obtain⟨k,f,rfl⟩:=f
    exact .inl ⟨k,rfl,t.old k f⟩
   ·have:∀k,H0.get k≠ .dead->σ k≠l:=by grind
    exact .inr ⟨hl,this,t.rest l hl this⟩
  ·have e:l=σ (H0.n+(l-H.n)):=by rw[s.ge _ O];omega
   refine .inl ⟨_,e,?_⟩
   rw[e]
   have:=t.new (H0.n+(l-H.n)) O
   grind
 have C:∀l r N,l<H.n->(∀k,H0.get k≠ .dead->σ k≠l)->H.get l≠ .dead->ρ l=z (r,N)->((H.get l).rw=false/\(c.iT ρ H0 H σ w).Z r)∨((H.get l).rw=true/\(c.iT ρ H0 H σ w).X r):=λl r N _ f u b=>by
  cases a:(H.get l).rw with
  |true=>exact .inr ⟨rfl,.inr ⟨l,N,a,f,b⟩⟩
  |false=>exact .inl ⟨rfl,.inr ⟨l,N,u,a,b⟩⟩
 have m:∀k,(j.get k).bD σ≠ .dead->j.get k≠ .dead:=λk u e=>u (by rw[e];rfl)
 refine⟨hx,B,λl=>?_,λl E r N L I a b o=>?_,λl r N a b q=>?_,λk f=>?_,r_ h.size d.size,d.os.trans h.os,d.output.trans h.output,d.tape.trans h.tape,λl hl=>?_,λg Q=>?_,λl r N u b q=>?_,λl hl=>?_,λl hl=>?_,d.qY,λl r N a b=>?_,λk f=>d.xw k (.inl f),λk vs e=>d.qZ k vs (h.qZ k vs e)⟩
 ·rcases kind l with⟨k,rfl,e⟩|⟨hl,f,e⟩
  ·rw[e,B];exact bp.bD bD (d.dF k)
  ·rw[e,v l hl]
   by_cases u:H.get l= .dead
   ·rw[u];trivial
   ·refine bp.world (λr N D=>?_) ((h.dF l).ext hx)
    exact(d.gH r Y).2
 ·apply a_
  intro i
  rcases kind l with⟨k,rfl,e⟩|⟨hl,f,e⟩
  ·rw[e,eT.qw]at a
   rw[B]at b
   rcases kind E with⟨J,rfl,D⟩|⟨y,K,D⟩
   ·rw[D]at i
    rw[B]at o
    exact m J i (d.sep k J r N L (λe=>I (by rw[e])) a b o)
   ·rw[D]at i
    rw[v E y]at o
    rcases C E r L y K i o with⟨_,q⟩|⟨_,q⟩
    ·exact d.gL k r N a b q
    ·exact d.hid k r N (zz a) b q
  ·rw[e]at a
   rw[v l hl]at b
   rcases kind E with⟨J,rfl,D⟩|⟨y,K,D⟩
   ·rw[D]at i
    rw[B]at o
    rcases C l r N hl f (zz a) b with⟨S,_⟩|⟨_,q⟩
    grind
    ·exact d.hid J r L (m J i) o q
   ·rw[D]at i
    rw[v E y]at o
    exact i (h.sep l E r N L I a b o)
 ·rcases kind l with⟨k,rfl,e⟩|⟨hl,f,e⟩
  ·rw[e,eT.qw]at a
   rw[B]at b
   exact d.gL k r N a b (.inl q)
  ·rw[e]at a
   rw[v l hl]at b
   exact h.gL l r N a b q
 ·obtain⟨b,o⟩:=h.gH k f
  exact⟨b,((d.gH k (f.imp .inl .inl)).2).trans o⟩
 ·rw[t.n]at hl
  simp only[Env.back]
  rw[if_neg O]
  exact d.top _ O
 ·obtain⟨N,R⟩:=h.fp g Q
  exact⟨N,hx _ _ R⟩
 ·rcases kind l with⟨k,rfl,e⟩|⟨hl,f,e⟩
  ·rw[e]at u
   rw[B]at b
   exact d.hid k r N (m k u) b (.inl q)
  ·rw[e]at u
   rw[v l hl]at b
   exact h.hid l r N u b q
 ·obtain⟨b,o⟩:=h.env l hl
  exact⟨by rw[t.n];omega,Y⟩
 ·rw[t.n]at hl
  have e:l=σ (H0.n+(l-H.n)):=by rw[s.ge _ O];omega
  have:=t.new (H0.n+(l-H.n)) O
  rw[<-e]at this
  rw[this,d.low _ O]
  rfl
 ·rcases kind l with⟨k,rfl,e⟩|⟨hl,f,e⟩
  ·rw[e,eT.qw]at a
   rw[B]at b
   exact d.pV k r N a b
  ·rw[e]at a
   rw[v l hl]at b
   exact d.xw r (.inr ⟨l,N,a,f,b⟩)
def CO.iT(σ:Nat->Nat)(H':AH):CO->CO
 | .ret a _=> .ret (a.bD σ) H'
 | .qt a _=> .qt (a.bD σ) H'
def CO.heap:CO->AH
 | .ret _ H=>H
 | .qt _ H=>H
def af.lift{P:Program}{I:ba}{f:FuncId}{args:List AV}{H0:AH}{o:CO}(h:af P I f args H0 o){σ:Nat->Nat}{H H':AH}(s:Sub I.G σ H0 H)(t:Eb σ H0 o.heap H H'):
  af P I f (bt.bD σ args) H (o.iT σ H'):=by
 intro c ρ w vs hG B j
 rw[<-hG]at s
 have l:=j.iT s
 have m:=aU.gR _ _ B
 have post:∀e w',o.post (c.iT ρ H0 H σ w) (ρ.fC σ) e w'->(o.iT σ H').post c ρ e w':=by
  intro e w' i
  cases o with
  |ret a H1=>
   cases e with
   |returned v=>
    obtain⟨ρ',hx,b,d⟩:=i
    obtain⟨k1,k2,q⟩:=j.KY s b t
    exact⟨_,k1,q,VR.bD (σ:=σ) (ρ:=ρ') (ρ':=ρ.back ρ' H0.n H.n) ⟨ZD,λ_ _ e=>e⟩ _ _ d⟩
   |panicked C=>exact i.elim
   |outgrown=>exact i.elim
  |qt a H1=>
   cases e with
   |returned v=>exact i.elim
   |panicked C=>
    obtain⟨ρ',u,rfl,hx,b,d⟩:=i
    obtain⟨k1,k2,q⟩:=j.KY s b t
    exact⟨_,u,rfl,k1,q,VR.bD (σ:=σ) (ρ:=ρ') (ρ':=ρ.back ρ' H0.n H.n) ⟨ZD,λ_ _ e=>e⟩ _ _ d⟩
   |outgrown=>exact i.elim
 rcases h (c.iT ρ H0 H σ w) (ρ.fC σ) w vs hG m l with⟨h1,y⟩|⟨v,w',h1,y⟩
 ·exact .inl ⟨h1,y.mono post⟩
 grind
mutual
def AV.le(σ:Nat->Nat):AV->AV->Prop
 |_,.any=>True
 | .bool a,.bool b=>a=b
 | .int k x,.int v y=>k=v/\x=y
 | .str s,.str t=>s=t
 | .ptr a b c d,.ptr a' h l m=>a=σ a'/\b=h/\c=l/\d=m
 | .nilPtr,.nilPtr=>True
 | .slice a b c d e f,.slice a' h l m o q=>a=σ a'/\b=h/\c=l/\d=m/\(∀x,o=z x->e=z x)/\f=q
 | .aw,.aw=>True
 | .aw,.own _ n _=>n=0
 | .aw,.ab n _ _=>n=0
 | .own a b c,.own a' h l=>a=σ a'/\b=h/\c=l
 | .map g_,.map g_=>True
 | .map (z a),.map (z b)=>a=σ b
 | .fn f a b,.fn q a' h=>f=q/\bt.le σ a a'/\bt.le σ b h
 | .yield a,.yield b=>a=σ b
 | .aB,.aB=>True
 | .nilIface,.nilIface=>True
 | .iface t a,.iface w a'=>t=w/\AV.le σ a a'
 | .agg a,.agg b=>bt.le σ a b
 | .qP a,.qP b=>bt.le σ a b
 | .fc cs j,.fc u B=>bt.le σ cs u/\j=B
 | .ab n e f,.ab C o g=>n=C/\e=o/\∀i,i<n->bt.le σ (f i) (g i)
 | .addr a b,.addr a' h=>a=a'/\b=h
 |_,_=>False
def bt.le(σ:Nat->Nat):List AV->List AV->Prop
 |[],[]=>True
 |a::as,b::D=>AV.le σ a b/\bt.le σ as D
 |_,_=>False
end
def Ext.fC{σ}{ρ:Env}:Ext ρ.bare (ρ.fC σ).bare:=⟨λ_ _ e=>zG,λ_ _ e=>e⟩
mutual
def VR.le{σ:Nat->Nat}{ρ:Env}:∀(a b:AV)(v:Value),AV.le σ a b->VR ρ a v->VR (ρ.fC σ) b v
 | .fn f x y,b,v,h,k=>by
  cases b<;>simp only[AV.le]at h
  ·obtain⟨rfl,d,w⟩:=h
   simp only[VR]at k⊢
   obtain⟨us,vs,e,r,s⟩:=k
   exact⟨us,vs,e,aU.le x _ us d r,aU.le y _ vs w s⟩
  ·simp only[VR]
 | .iface t x,b,v,h,k=>by
  cases b<;>simp only[AV.le]at h
  ·obtain⟨rfl,d⟩:=h
   simp only[VR]at k⊢
   obtain⟨u,e,r⟩:=k
   exact⟨u,e,VR.le x _ u d r⟩
  ·simp only[VR]
 | .agg cs,b,v,h,k=>by
  cases b<;>simp only[AV.le]at h
  ·simp only[VR]at k⊢
   obtain⟨vs,e,r⟩:=k
   exact⟨vs,e,aU.le cs _ vs h r⟩
  ·simp only[VR]
 | .qP cs,b,v,h,k=>by
  cases b<;>simp only[AV.le]at h
  ·simp only[VR]at k⊢
   obtain⟨vs,e,r⟩:=k
   exact⟨vs,e,aU.le cs _ vs h r⟩
  ·simp only[VR]
 | .fc cs j,b,v,h,k=>by
  cases b<;>simp only[AV.le]at h
  ·simp only[VR]
  ·obtain⟨d,rfl⟩:=h
   simp only[VR]at k⊢
   obtain⟨b,q,vs,e,r,s⟩:=k
   exact⟨b,q,vs,e,r.mono λ_ _ e=>e,aU.le cs _ vs d s⟩
 | .ab n e f,b,v,h,k=>by
  cases b<;>simp only[AV.le]at h
  ·simp only[VR]
  ·obtain⟨rfl,rfl,d⟩:=h
   simp only[VR]at k⊢
   rcases k with k|⟨b,q,c,a,m,e,r,s⟩
   ·exact .inl k
   ·exact .inr ⟨b,q,c,a,m,e,r,λhl=>⟨(s hl).1,(s hl).2.1.mono λ_ _ e=>e,λi hi=>⟨((s hl).2.2 i hi).1,aU.le (f i) _ _ (d i hi) ((s hl).2.2 i hi).2⟩⟩⟩
 | .bool _,b,v,h,k=>by
  cases b<;>simp only[AV.le]at h<;>first|(simp only[VR];done)|(simp only[VR]at k⊢;exact k)|(subst h;simp only[VR]at k⊢;exact k)|(obtain⟨rfl,rfl⟩:=h;simp only[VR]at k⊢;exact k)|(obtain⟨rfl,rfl,rfl,rfl⟩:=h;simp only[VR]at k⊢;exact k)
 | .int _ _,b,v,h,k=>by
  cases b<;>simp only[AV.le]at h<;>first|(simp only[VR];done)|(simp only[VR]at k⊢;exact k)|(subst h;simp only[VR]at k⊢;exact k)|(obtain⟨rfl,rfl⟩:=h;simp only[VR]at k⊢;exact k)|(obtain⟨rfl,rfl,rfl,rfl⟩:=h;simp only[VR]at k⊢;exact k)
 | .str _,b,v,h,k=>by
  cases b<;>simp only[AV.le]at h<;>first|(simp only[VR];done)|(simp only[VR]at k⊢;exact k)|(subst h;simp only[VR]at k⊢;exact k)|(obtain⟨rfl,rfl⟩:=h;simp only[VR]at k⊢;exact k)|(obtain⟨rfl,rfl,rfl,rfl⟩:=h;simp only[VR]at k⊢;exact k)
 | .nilPtr,b,v,h,k=>by
  cases b<;>simp only[AV.le]at h<;>first|(simp only[VR];done)|(simp only[VR]at k⊢;exact k)|(subst h;simp only[VR]at k⊢;exact k)|(obtain⟨rfl,rfl⟩:=h;simp only[VR]at k⊢;exact k)|(obtain⟨rfl,rfl,rfl,rfl⟩:=h;simp only[VR]at k⊢;exact k)
 | .addr _ _,b,v,h,k=>by
  cases b<;>simp only[AV.le]at h<;>first|(simp only[VR];done)|(obtain⟨rfl,rfl⟩:=h;simp only[VR]at k⊢;exact k)
 | .aB,b,v,h,k=>by
  cases b<;>simp only[AV.le]at h<;>first|(simp only[VR];done)|(simp only[VR]at k⊢;exact k)|(subst h;simp only[VR]at k⊢;exact k)|(obtain⟨rfl,rfl⟩:=h;simp only[VR]at k⊢;exact k)|(obtain⟨rfl,rfl,rfl,rfl⟩:=h;simp only[VR]at k⊢;exact k)
 | .nilIface,b,v,h,k=>by
  cases b<;>simp only[AV.le]at h<;>first|(simp only[VR];done)|(simp only[VR]at k⊢;exact k)|(subst h;simp only[VR]at k⊢;exact k)|(obtain⟨rfl,rfl⟩:=h;simp only[VR]at k⊢;exact k)|(obtain⟨rfl,rfl,rfl,rfl⟩:=h;simp only[VR]at k⊢;exact k)
 | .any,b,v,h,k=>by
  cases b<;>simp only[AV.le]at h<;>first|(simp only[VR];done)|(simp only[VR]at k⊢;exact k)|(subst h;simp only[VR]at k⊢;exact k)|(obtain⟨rfl,rfl⟩:=h;simp only[VR]at k⊢;exact k)|(obtain⟨rfl,rfl,rfl,rfl⟩:=h;simp only[VR]at k⊢;exact k)
 | .ptr _ _ _ _,b,v,h,k=>by
  cases b<;>simp only[AV.le]at h<;>first|(simp only[VR];done)|(simp only[VR]at k⊢;exact k)|(subst h;simp only[VR]at k⊢;exact k)|(obtain⟨rfl,rfl⟩:=h;simp only[VR]at k⊢;exact k)|(obtain⟨rfl,rfl,rfl,rfl⟩:=h;simp only[VR]at k⊢;exact k)
 | .yield _,b,v,h,k=>by
  cases b<;>simp only[AV.le]at h<;>first|(simp only[VR];done)|(simp only[VR]at k⊢;exact k)|(subst h;simp only[VR]at k⊢;exact k)|(obtain⟨rfl,rfl⟩:=h;simp only[VR]at k⊢;exact k)|(obtain⟨rfl,rfl,rfl,rfl⟩:=h;simp only[VR]at k⊢;exact k)
 | .aw,b,v,h,k=>by
  cases b<;>simp only[AV.le]at h<;>first|(simp only[VR];done)|(simp only[VR]at k⊢;exact k)|(subst h;simp only[VR]at k⊢;exact .inl ⟨trivial,k⟩)|(simp only[VR]at k⊢;exact .inl ⟨h,k⟩)
 | .own _ _ _,b,v,h,k=>by
  cases b<;>simp only[AV.le]at h<;>first|(simp only[VR];done)|(obtain⟨rfl,rfl,rfl⟩:=h;simp only[VR]at k⊢;exact k)
 | .map g_,b,v,h,k=>by
  cases b with
  |map l=>cases l<;>simp only[AV.le]at h;simp only[VR]at k⊢;exact k
  |any=>simp only[VR]
  |_=>simp only[AV.le]at h
 | .map (z _),b,v,h,k=>by
  cases b with
  |map l=>cases l<;>simp only[AV.le]at h;subst h;simp only[VR]at k⊢;exact k
  |any=>simp only[VR]
  |_=>simp only[AV.le]at h
 | .slice _ _ _ _ _ _,b,v,h,k=>by
  cases b<;>simp only[AV.le]at h
  ·obtain⟨rfl,rfl,rfl,rfl,B,rfl⟩:=h
   simp only[VR]at k⊢
   obtain⟨b,N,c,a,k1,k2,C,D,E⟩:=k
   exact⟨b,N,c,a,k1,k2,C,D,λx e=>E x (B x e)⟩
  ·simp only[VR]
def aU.le{σ:Nat->Nat}{ρ:Env}:∀(as o:List AV)(vs:List Value),bt.le σ as o->aU ρ as vs->aU (ρ.fC σ) o vs
 |[],[],_,_,k=>by simpa only[aU]using k
 |a::as,b::o,vs,h,k=>by
  simp only[bt.le]at h
  simp only[aU]at k⊢
  obtain⟨u,us,e,r,s⟩:=k
  exact⟨u,us,e,VR.le a _ u h.1 r,aU.le as _ us h.2 s⟩
 |[],_::_,_,h,_=>by simp[bt.le]at h
 |_::_,[],_,h,_=>by simp[bt.le]at h
end
def bt.sH{σ}:∀{as c},bt.le σ as c->as.length=c.length
 |[],[],_=>rfl
 |a::as,b::c,h=>by
  simp only[bt.le]at h
  simp[bt.sH h.2]
 |[],_::_,h=>by simp[bt.le]at h
 |_::_,[],h=>by simp[bt.le]at h
def bt.yx{σ}:∀{as c cs ds},bt.le σ as c->bt.le σ cs ds->bt.le σ (as++cs) (c++ds)
 |[],[],_,_,_,h=>h
 |a::as,b::c,cs,ds,h,k=>by
  simp only[bt.le]at h
  exact⟨h.1,bt.yx h.2 k⟩
 |[],_::_,_,_,h,_=>by simp[bt.le]at h
 |_::_,[],_,_,h,_=>by simp[bt.le]at h
def sI{σ f g}:∀{n},(∀i,i<n->bt.le σ (f i) (g i))->bt.le σ (rowsOf n f) (rowsOf n g)
 |0,_=>by simp[rowsOf,bt.le]
 |n+1,h=>by
  rw[dl,dl]
  exact bt.yx (sI λi hi=>h i O) (h n O)
def Tr.le(σ:Nat->Nat):Tr AV->Tr AV->Prop
 |_,.e=>True
 | .e,.n l v r=>Tr.le σ .e l/\(match v with|none=>True|some a=>AV.le σ .any a)/\Tr.le σ .e r
 | .n l v r,.n c d f=>Tr.le σ l c/\(match v,d with|_,g_=>True|some a,z b=>AV.le σ a b|none,z b=>AV.le σ .any b)/\Tr.le σ r f
def Tr.qz{σ}:∀{t d},Tr.le σ t d->∀i,AV.le σ (cR t i) (cR d i)
 |_,.e,_,i=>by simp[cR,Tr.qV,AV.le]
 | .e,.n l v r,h,i=>by
  simp only[Tr.le]at h
  have hl:=Tr.qz h.1
  have c:=Tr.qz h.2.2
  simp only[cR,Tr.get]at hl c⊢
  cases M i 0
  grind
  ·cases v with
   |none=>simp[AV.le]
   |some a=>exact h.2.1
 | .n l v r,.n j f m,h,i=>by
  simp only[Tr.le]at h
  have hl:=Tr.qz h.1
  have c:=Tr.qz h.2.2
  simp only[cR,Tr.get]at hl c⊢
  cases M i 0
  grind
  ·cases f with
   |none=>simp[AV.le]
   |some b=>grind
def Access.le:Access->Access->Prop
 | .ro,.ro=>True
 | .wr,.wr=>True
 | .ty _,.wr=>True
 | .ty e,.ty a=>e=a
 | .ex m,.ex b=>m=b
 |_,_=>False
def Access.HZ:∀{a b:Access},a.le b->a.w=b.w
 | .ro,.ro,_=>rfl
 | .wr,.wr,_=>rfl
 | .ty _,.wr,_=>rfl
 | .ty _,.ty _,_=>rfl
 | .ro,.wr,h=>h.elim
 | .ro,.ty _,h=>h.elim
 | .wr,.ro,h=>h.elim
 | .wr,.ty _,h=>h.elim
 | .ty _,.ro,h=>h.elim
 | .ex _,.ex _,_=>rfl
 | .ex _,.ro,h=>h.elim
 | .ex _,.wr,h=>h.elim
 | .ex _,.ty _,h=>h.elim
 | .ro,.ex _,h=>h.elim
 | .wr,.ex _,h=>h.elim
 | .ty _,.ex _,h=>h.elim
def pU.le{a b el fr N}(h:pU a el fr N)(k:a.le b):pU b el fr N :=
 ⟨λd=>h.w (by rw[Access.HZ k];exact d),λe c=>by
  subst c
  cases a with
  |ty f=>simp only[Access.le]at k;subst k;exact h.ty _ A
  |_=>exact k.elim,λm c=>by
  subst c
  cases a with
  |ex i=>simp only[Access.le]at k;subst k;exact h.ex _ A
  |_=>exact k.elim⟩
def eT.le(σ:Nat->Nat):eT->eT->Prop
 |_,.dead=>True
 | .cells cs rw,.cells m b=>bt.le σ cs m/\rw.le b
 | .rows n e f rw,.rows d E g b=>n=d/\e=E/\(∀i,i<n->bt.le σ (f i) (g i))/\rw.le b
 | .cells cs rw,.rows n e g b=>cs.length=n*e/\(∀i,i<n->bt.le σ ((cs.drop (i*e)).take e) (g i))/\0<e/\rw.le b
 | .str s rw,.str o b=>s=o/\rw.le b
 | .rows n _ f rw,.cells cs b=>bt.le σ (rowsOf n f) cs/\rw.le b
 | .map es,.map c=>dL es=dL c/\bt.le σ ((gK es).map (·.1)) ((gK c).map (·.1))/\bt.le σ ((gK es).map (·.2)) ((gK c).map (·.2))
 | .loop F G t nt H as I df,.loop q u J v w y B C=>F=q/\G=u/\Tr.le σ t J/\nt=v/\H=w/\as=y/\I=B/\df=σ C
 | .tE,.tE=>True
 | .iter l,.iter D=>l=σ D
 | .iy n K,.iy d L=>n=d/\∀i,i<n->K i=L i
 | .map es,.iy n _=>es=[]/\n=0
 | .dX l s S,.dX D o N=>l=σ D/\s=o/\S=N
 | .cT n f P foc,.cT d g Q h=>n=d/\(∀i,i<n->f i=g i)/\(∀i,i<n->AV.le σ (P i) (Q i))/\∀j a',h=z (j,a')->∃a,foc=z (j,a)/\AV.le σ a a'
 | .map es,.cT n _ _ foc=>es=[]/\n=0/\foc=g_
 |_,_=>False
def aJ.le{σ:Nat->Nat}{ρ:Env}{w:World}{o:Option (Nat×Nat)}{cs ds:List AV}{rw c:Access}(h:bt.le σ cs ds)(a:rw.le c)(k:aJ ρ w o cs rw):aJ (ρ.fC σ) w o ds c:=by
 rcases k with⟨rfl,k⟩|⟨b,N,vs,rest,el,fr,h1,f,i,j,d⟩
 ·cases ds with
  |nil=>exact .inl ⟨rfl,k⟩
  |cons=>simp[bt.le]at h
 ·exact .inr ⟨b,N,vs,rest,el,fr,h1,f,i,aU.le _ _ _ h j,d.1.le a,d.2.1,λe=>d.2.2 (by cases rw<;>first|rfl|(rw[e]at a;exact a.elim))⟩
def z8{σ}(s):bt.le σ (byteCells s) (byteCells s)=True:=by
 induction s with
 |nil=>rfl
 |cons a s b=>
  show bt.le σ (.int .u8 a.toNat::byteCells s) (.int .u8 a.toNat::byteCells s)=True
  simp only[bt.le,AV.le,b,and_self]
def bp.le{σ:Nat->Nat}{ρ:Env}{w:World}{o:Option (Nat×Nat)}{a b:eT}(h:a.le σ b)(k:bp ρ w o a):bp (ρ.fC σ) w o b:=by
 unfold eT.le at h
 split at h
 ·trivial
 ·exact aJ.le h.1 h.2 k
 ·obtain⟨rfl,rfl,h,s⟩:=h
  exact⟨λi hi=>by rw[<-bt.sH (h i hi)];exact k.1 i hi,aJ.le (sI h) s k.2⟩
 ·rename_i cs rw n e g G
  obtain⟨hl,h,H,s⟩:=h
  refine⟨λi hi=>?_,?_⟩
  ·have q:i*e+e<=n*e:=by
    have:=t_ e (O:i+1<=n)
    rw[l_]at this;exact this
   rw[<-bt.sH (h i hi)]
   grind
  ·have B:=iP (cs:=cs) (o:=0) H (n:=n) O
   simp only[c_,List.drop_zero]at B
   rw[<-hl,List.take_length]at B
   refine aJ.le (cs:=cs) ?_ s k
   rw[<-B]
   exact sI h
 ·obtain⟨rfl,s⟩:=h
  exact aJ.le (by rw[z8];trivial) s k
 ·exact aJ.le h.1 h.2 k.2
 ·rename_i D I
  obtain⟨b,N,ms,l,q,m,⟨C,t,v,y,J⟩,L⟩:=k
  refine⟨b,N,ms,l,q,m,⟨C,aU.le _ _ _ h.2.1 t,aU.le _ _ _ h.2.2 v,by rw[<-h.1];exact y,J⟩,λe=>L ?_⟩
  subst e
  have e1:dL D=false:=h.1
  have E:=h.2.1
  rw[oY e1]at E
  cases D with
  |nil=>rfl
  |cons x xs=>exact E.elim
 ·obtain⟨rfl,rfl,h,rfl,rfl,rfl,rfl,rfl⟩:=h
  obtain⟨b,N,d,c,fn,vs,q,m,t,v⟩:=k
  exact⟨b,N,d,c,fn,vs,q,m,⟨t.1,λi=>VR.le _ _ _ (Tr.qz h i) (t.2 i)⟩,v⟩
 ·exact k
 ·subst h;exact k
 ·obtain⟨rfl,h⟩:=h
  rename_i n K R
  have e:dM n R=dM n K:=by
   unfold dM
   exact u_ λi hi=>by rw[h i (List.mem_range.1 hi)]
  obtain⟨b,N,q,m⟩:=k
  exact⟨b,N,q,by rw[e];exact m⟩
 ·obtain⟨rfl,rfl⟩:=h
  obtain⟨b,N,ms,l,q,m,t,v⟩:=k
  obtain⟨y,_⟩:=t.plain rfl
  have e:ms=[]:=by
   cases ms with
   |nil=>rfl
   |cons x xs=>simp[aU]at y
  subst e
  rw[v A]at m
  exact⟨b,N,q,m⟩
 ·obtain⟨rfl,rfl,rfl⟩:=h
  exact k
 ·obtain⟨rfl,q,m,t⟩:=h
  rename_i n f P foc g Q F
  obtain⟨b,N,u,g1,g2,g3,g4⟩:=k
  have e:bT n g u=bT n f u:=by
   unfold bT
   exact u_ λi hi=>by rw[q i (List.mem_range.1 hi)]
  refine⟨b,N,u,g1,by rw[e];exact g2,λi hi=>VR.le _ _ _ (m i hi) (g3 i hi),λj a' ha=>?_⟩
  obtain⟨a,v,y⟩:=t j a' ha
  exact⟨(g4 j a v).1,VR.le _ _ _ y (g4 j a v).2⟩
 ·obtain⟨rfl,rfl,rfl⟩:=h
  obtain⟨b,N,ms,l,q,m,t,v⟩:=k
  obtain⟨y,_⟩:=t.plain rfl
  have e:ms=[]:=by
   cases ms with
   |nil=>rfl
   |cons x xs=>simp[aU]at y
  subst e
  rw[v A]at m
  exact⟨b,N,λ_=> .nilFunc,q,m,λ_ hi=>absurd hi (lZ _),λ_ _ e=>zG⟩
 ·exact h.elim
def eT.KZ{σ}{a b:eT}(h:a.le σ b)(c:b≠ .dead):a.rw=b.rw:=by
 unfold eT.le at h
 split at h
 grind
 ·exact Access.HZ h.2
 ·exact Access.HZ h.2.2.2
 ·exact Access.HZ h.2.2.2
 ·exact Access.HZ h.2
 ·exact Access.HZ h.2
 ·exact congrArg (λb=>!b) h.1
 ·rfl
 ·rfl
 ·rfl
 ·rfl
 ·obtain⟨rfl,_⟩:=h;rfl
 ·rfl
 ·rfl
 ·obtain⟨rfl,_⟩:=h;rfl
 ·exact h.elim
def eT.Gp{σ}{a b:eT}(h:a.le σ b)(c:b≠ .dead):a≠ .dead:=by
 rintro rfl
 unfold eT.le at h
 grind
def eT.nothing:eT->Prop
 | .cells cs _=>cs=[]
 | .rows n _ _ _=>n=0
 | .str s _=>s=[]
 |_=>False
def bp.Ec{ρ w b}(h:b.nothing):bp ρ w g_ b:=by
 cases b with
 |cells cs a=>simp only[eT.nothing]at h;subst h;exact .inl ⟨rfl,rfl⟩
 |rows n e f a=>simp only[eT.nothing]at h;subst h;exact⟨O,.inl ⟨by simp[rowsOf],rfl⟩⟩
 |str s a=>simp only[eT.nothing]at h;subst h;exact .inl ⟨rfl,rfl⟩
 |_=>exact h.elim
structure AH.Le (n0:Nat) (σ:Nat->Nat) (H H':AH):Prop where
 n:n0<=H'.n
 id:∀l,l<n0->σ l=l
 ge:∀l,H'.n<=l->H.n<=σ l
 dF:∀l,H'.get l= .dead∨(H.get (σ l)).le σ (H'.get l)∨(H.n<=σ l/\(H'.get l).nothing)
 inj:∀l l',H'.get l≠ .dead->H'.get l'≠ .dead->σ l=σ l'->σ l<H.n->l=l'
 low:∀l,H'.n<=l->H'.get l= .dead
def Rel.view{c:fw}{ρ:Env}{n0:Nat}{σ:Nat->Nat}{H H':AH}{w:World}(h:Rel c ρ H w)(s:AH.Le n0 σ H H')(hG:c.G<=n0)(v:∀l,c.E l->l<n0):Rel c (ρ.fC σ) H' w:=by
 have lt:∀l r N,ρ (σ l)=z (r,N)->σ l<H.n:=λl r N e=>p_ λm=>by rw[h.top _ m]at e;cases e
 have b:∀l r N,H'.get l≠ .dead->ρ (σ l)=z (r,N)->(H.get (σ l)).le σ (H'.get l):=λl r N o d=>by
  have:=lt l r N d
  rcases s.dF l with k|k|k
  all_goals grind
 refine⟨λl=>?_,λl q r N u t a d j=>?_,λl r N a d=>?_,h.gH,h.size,h.os,h.output,h.tape,λl hl=>h.top _ (s.ge l hl),λg y=>?_,λl r N o d=>?_,λl hl=>?_,s.low,h.qY,λl r N a d=>?_,h.xw,h.qZ⟩
 ·rcases s.dF l with k|k|⟨k1,k2⟩
  ·rw[k];trivial
  ·exact bp.le k (h.dF _)
  ·show bp _ _ (ρ (σ l)) _
   rw[h.top _ k1];exact bp.Ec k2
 ·apply a_
  intro f
  have k:=b l r N (zz a) d
  have B:=b q r u f j
  refine eT.Gp B f (h.sep (σ l) (σ q) r N u (λe=>t (s.inj l q (zz a) f e (lt l r N d))) ?_ d j)
  rw[eT.KZ k (zz a)];exact a
 ·have k:=b l r N (zz a) d
  exact h.gL _ r N (by rw[eT.KZ k (zz a)];exact a) d
 ·obtain⟨N,C⟩:=h.fp g y
  exact⟨N,by show ρ (σ g)=_;rw[s.id g O];exact C⟩
 ·exact h.hid _ r N (eT.Gp (b l r N o d) o) d
 ·have i:=v l hl
  obtain⟨_,j⟩:=h.env l hl
  exact⟨j_ i s.n,by show ρ (σ l)=_;rw[s.id l i];exact j⟩
 ·have k:=b l r N (zz a) d
  exact h.pV _ r N (by rw[eT.KZ k (zz a)];exact a) d
structure OK (n0:Nat) (ρ ρ':Env):Prop where
 Pa:∀l,l<n0->∀x,ρ l=z x->ρ' l=z x
 fz:∀b vs,ρ.fz b=z vs->ρ'.fz b=z vs
instance {n0:Nat}{ρ ρ':Env}:CoeFun (OK n0 ρ ρ') (λ_=> ∀l,l<n0->∀x,ρ l=z x->ρ' l=z x):=⟨OK.Pa⟩
def OK.trans{n0 a b c}(h:OK n0 a b)(k:OK n0 b c):OK n0 a c:=⟨λl hl x e=>k l hl x (h l hl x e),λb vs e=>k.fz b vs (h.fz b vs e)⟩
def OK.of{n0 a b}(h:Ext a b):OK n0 a b:=⟨λl _ x e=>h l x e,h.fz⟩
def AH.Le.ext{n0 σ H H'}(s:AH.Le n0 σ H H')(ρ):OK n0 ρ (ρ.fC σ):=⟨λl hl x e=>by show ρ (σ l)=_;rw[s.id l hl];exact e,λ_ _ e=>e⟩
def OK.ext{c ρ ρ' H w}(h:OK H.n ρ ρ')(b:Rel c ρ H w):Ext ρ ρ':=⟨λl x e=>h l (p_ λa=>by rw[b.top l a]at e;cases e) x e,h.fz⟩
structure St.Le (n0:Nat) (s s':St):Prop where
 le:∃σ,AH.Le n0 σ s.H s'.H/\s.nt=s'.nt/\Tr.le σ s.t s'.t/\s.df=s'.df.map σ
def Gh.view{ρ σ}:∀{a ds},Gh ρ (a.map σ) ds->Gh (ρ.fC σ) a ds
 |[],_,h=>h
 |_::_,_,⟨b,N,rest,h1,c,d⟩=>⟨b,N,rest,h1,c,Gh.view d⟩
def cA.view{c ρ n0 s b a w}(h:cA c ρ s a w)(k:St.Le n0 s b)(hG:c.G<=n0)(d:∀l,c.E l->l<n0):∃ρ',OK n0 ρ ρ'/\cA c ρ' b a w:=by
 obtain⟨σ,k1,k2,f,j⟩:=k.le
 refine⟨_,k1.ext ρ,⟨h.tmp.1.trans k2,λi=>VR.le _ _ _ (Tr.qz f i) (h.tmp.2 i)⟩,h.heap.view k1 hG d,?_⟩
 have:=h.df
 rw[j]at this
 exact this.view
def aQ.Le(n0:Nat):aQ->aQ->Prop
 | .n s,.n a=>St.Le n0 s a
 | .x i s,.x j a=>i=j/\St.Le n0 s a
 | .g i s,.g j a=>i=j/\St.Le n0 s a
 | .r s,.r a=>St.Le n0 s a
 |_,_=>False
def aQ.kx(n0:Nat)(e:aQ)(c:fw)(ρ:Env)(x:Exit)(a:Act)(w:World):Prop :=
 match e,x with
 | .n s,.normal=> ∃ρ',OK n0 ρ ρ'/\cA c ρ' s a w
 | .x i s,.exit j=>i=j/\∃ρ',OK n0 ρ ρ'/\cA c ρ' s a w
 | .g l s,.goto m=>l=m/\∃ρ',OK n0 ρ ρ'/\cA c ρ' s a w
 | .r s,.ret=> ∃ρ',OK n0 ρ ρ'/\cA c ρ' s a w
 | .p v s,.panic b=> ∃ρ' u,b=[{v:=u,recovered:=false}]/\OK n0 ρ ρ'/\cA c ρ' s a w/\VR ρ' v u
 |_,_=>False
def aQ.ji{n0:Nat}{e:aQ}{c:fw}{ρ:Env}{x:Exit}{a:Act}{w:World}(h:e.post c ρ x a w):e.kx n0 c ρ x a w:=by
 cases e<;>cases x<;>simp only[aQ.post,aQ.kx]at h⊢
 ·obtain⟨ρ',b,d⟩:=h;exact⟨ρ',.of b,d⟩
 ·obtain⟨f,ρ',b,d⟩:=h;exact⟨f,ρ',.of b,d⟩
 ·obtain⟨f,ρ',b,d⟩:=h;exact⟨f,ρ',.of b,d⟩
 ·obtain⟨ρ',b,d⟩:=h;exact⟨ρ',.of b,d⟩
 ·obtain⟨ρ',u,f,b,d⟩:=h;exact⟨ρ',u,f,.of b,d⟩
def aQ.ja{n0:Nat}{e:aQ}{c:fw}{ρ f:Env}{x:Exit}{a:Act}{w:World}(hx:OK n0 ρ f)(h:e.kx n0 c f x a w):e.kx n0 c ρ x a w:=by
 cases e<;>cases x<;>simp only[aQ.kx]at h⊢
 ·obtain⟨ρ',b,d⟩:=h;exact⟨ρ',hx.trans b,d⟩
 ·obtain⟨i,ρ',b,d⟩:=h;exact⟨i,ρ',hx.trans b,d⟩
 ·obtain⟨i,ρ',b,d⟩:=h;exact⟨i,ρ',hx.trans b,d⟩
 ·obtain⟨ρ',b,d⟩:=h;exact⟨ρ',hx.trans b,d⟩
 ·obtain⟨ρ',u,i,b,d⟩:=h;exact⟨ρ',u,i,hx.trans b,d⟩
def aQ.nG{n0:Nat}{e:aQ}{c:fw}{ρ:Env}{H:AH}{w0:World}(f:Rel c ρ H w0)(hn:n0=H.n){x:Exit}{a:Act}{w:World}(h:e.kx n0 c ρ x a w):e.post c ρ x a w:=by
 subst hn
 cases e<;>cases x<;>simp only[aQ.post,aQ.kx]at h⊢
 ·obtain⟨ρ',b,d⟩:=h;exact⟨ρ',b.ext f,d⟩
 ·obtain⟨i,ρ',b,d⟩:=h;exact⟨i,ρ',b.ext f,d⟩
 ·obtain⟨i,ρ',b,d⟩:=h;exact⟨i,ρ',b.ext f,d⟩
 ·obtain⟨ρ',b,d⟩:=h;exact⟨ρ',b.ext f,d⟩
 ·obtain⟨ρ',u,i,b,d⟩:=h;exact⟨ρ',u,i,b.ext f,d⟩
def aQ.jk{n0 e o}(k:aQ.Le n0 e o){c}(hG:c.G<=n0)(m:∀l,c.E l->l<n0){ρ x a w}(h:e.kx n0 c ρ x a w):o.kx n0 c ρ x a w:=by
 cases e<;>cases o<;>cases x<;>simp only[aQ.Le,aQ.kx]at k h⊢
 ·obtain⟨ρ',d,f⟩:=h
  obtain⟨b,i,j⟩:=f.view k hG m
  exact⟨b,d.trans i,j⟩
 ·obtain⟨q,ρ',d,f⟩:=h
  obtain⟨b,i,j⟩:=f.view k.2 hG m
  exact⟨k.1.symm.trans q,b,d.trans i,j⟩
 ·obtain⟨q,ρ',d,f⟩:=h
  obtain⟨b,i,j⟩:=f.view k.2 hG m
  exact⟨k.1.symm.trans q,b,d.trans i,j⟩
 ·obtain⟨ρ',d,f⟩:=h
  obtain⟨b,i,j⟩:=f.view k hG m
  exact⟨b,d.trans i,j⟩
def Round{ι:Type}(n0:Nat)(J:ι->Prop)(S:ι->St)(E:ι->aQ)(a:ι->Nat)(i:ι):aQ->Prop
 | .n s=> ∃j,J j/\a j<a i/\St.Le n0 s (S j)/\E j=E i
 |e=>aQ.Le n0 e (E i)
def BG{P:Program}{I:ba}{ι:Type}{n0:Nat}{J:ι->Prop}{S:ι->St}{E:ι->aQ}{H:ι->Nat}{c:Code}{ir:Bool}(u:I.G<=n0)
  (h:∀i,J i->∃e,Dj P I ir (.code c) (S i) e/\Round n0 J S E H i e):
  ∀m i,J i->H i<m->∀t,t= .inLoop c∨t= .code (.loop c)->∀ro n d ρ a w,(ir=false->ro=g_)->d.G=I.G->(∀l,d.E l->l<n0)->cA d ρ (S i) a w->fG (WF ro) n P t ((E i).kx n0 d ρ) a w:=by
 intro m
 induction m with
 |zero=>omega
 |succ m K=>
  intro i L hi t ht ro n d ρ a w k hG o N
  obtain⟨e,Q,q⟩:=h i L
  refine mB t ht ?_
  have R:c.wpIn (WF ro) n P (e.post d ρ) a w:=Q ro n d ρ a w k hG N
  refine wpIn_mono R λx a1 T b=>?_
  have f:d.G<=n0:=by rw[hG];exact u
  cases e with
  |n s=>
   cases x with
   |normal=>
    obtain⟨U,hx,y⟩:=b
    obtain⟨j,B,X,C,D⟩:=q
    obtain⟨F,V,W⟩:=y.view C f o
    have:=K j B O (.inLoop c) (.inl A) ro n d F a1 T k hG o W
    rw[D]at this
    exact this.mono λx a w b=>aQ.ja ((OK.of hx).trans V) b
   |_=>exact b.elim
  |x i s=>
   cases x with
   |exit id=>exact aQ.jk q f o (aQ.ji b)
   |_=>exact b.elim
  |g i s=>
   cases x with
   |goto id=>exact aQ.jk q f o (aQ.ji b)
   |_=>exact b.elim
  |r s=>
   cases x with
   |ret=>exact aQ.jk q f o (aQ.ji b)
   |_=>exact b.elim
  |p v s=>simp only[Round,aQ.Le]at q
def qA{P I ι s J S E}(j){c ir}{i:ι}(b:I.G<=s.H.n)(o:J i)(start:St.Le s.H.n s (S i))
  (d:∀i,J i->∃e,Dj P I ir (.code c) (S i) e/\Round s.H.n J S E j i e):Dj P I ir (.code (.loop c)) s (E i):=by
 intro ro n k ρ a w f hG g
 have m:∀l,k.E l->l<s.H.n:=λl hl=>(g.heap.env l hl).1
 obtain⟨h,p,q⟩:=g.view start (by rw[hG];exact b) m
 have:=BG b d (j i+1) i o (Nat.lt_succ_self _) _ (.inr A) ro n k h a w f hG m q
 exact this.mono λx a w r=>aQ.nG g.heap A (aQ.ja p r)
def kM:Code->Nat
 | .region id ops _=>1000*id+ops.size
 | .seq a _=>kM a
 | .block _ c=>kM c
 | .scope c=>kM c
 | .loop c=>kM c
 |_=>0
def PA:Nat:=1000000000000
structure ky (n0:Nat) (a:AV) (H:AH) (a':AV) (H':AH):Prop where
 le:∃σ,AH.Le n0 σ H H'/\AV.le σ a a'
def af.le{P:Program}{I:ba}{f:FuncId}{args:List AV}{H H1 H':AH}{a a':AV}(h:af P I f args H (.ret a H1))(k:ky H.n a H1 a' H'):af P I f args H (.ret a' H'):=by
 obtain⟨σ,k1,k2⟩:=k.le
 intro c ρ w vs hG t b
 have post:∀e w',(CO.ret a H1).post c ρ e w'->(CO.ret a' H').post c ρ e w':=by
  intro e w' d
  cases e with
  |returned v=>
   obtain⟨ρ',hx,i,j⟩:=d
   have m:c.G<=H.n:=by
    refine b_ λo=>?_
    obtain⟨N,q⟩:=b.fp H.n o
    rw[b.top _ (dw _)]at q;cases q
   refine⟨_,((OK.of hx).trans (k1.ext ρ')).ext b,i.view k1 m λl hl=>(b.env l hl).1,VR.le _ _ _ k2 j⟩
  |panicked u=>exact d.elim
  |outgrown=>exact d.elim
 rcases h c ρ w vs hG t b with⟨h1,s⟩|⟨v,w',h1,s⟩
 ·exact .inl ⟨h1,s.mono post⟩
 grind
def Tu(p:Nat->Prop):Nat->Prop:=λn=>Nat.rec (motive:=λ_=>Prop) True (λi acc=>acc/\p i) n
def gS{p}:∀{n},Tu p n↔ ∀i,i<n->p i
 |0=>⟨zA,λ_=>trivial⟩
 |n+1=>by
  constructor
  ·rintro⟨h1,a⟩ i hi
   by_cases e:i=n
   ·subst e;exact a
   ·exact gS.1 h1 i O
  ·intro h
   exact⟨gS.2 λi hi=>h i O,h n O⟩
def sig(n0:Nat)(a:List Nat)(N l:Nat):Nat:=bif m_ l n0 then l else match a[l-n0]? with
 |some x=>x
 |none=>N+l
def tO(σ:Nat->Nat)(N l:Nat)(H:AH):eT->Prop
 | .dead=>True
 |b=>if σ l<N then(H.get (σ l)).le σ b else b.nothing
def sK:List Nat->Bool
 |[]=>true
 |a::as=>bif sE as a then false else sK as
def Tr.vS{α:Type}(N:Nat):Tr α->(Nat->Nat)->Bool
 | .e,_=>true
 | .n l v r,f=>(match v with|none=>true|some _=>m_ (f 0) N)&&l.vS N (λi=>f (2*i+1))&&r.vS N (λi=>f (2*i+2))
def Tr.sL{α:Type}{N:Nat}:∀{t:Tr α}{f:Nat->Nat},t.vS N f=true->∀i,N<=f i->t.get i=g_
 | .e,_,_,_,_=>rfl
 | .n l v r,f,h,i,hi=>by
  simp only[Tr.vS,bf]at h
  simp only[Tr.get]
  cases a:M i 0 with
  |true=>
   have:=dE a
   subst this
   cases v with
   |none=>rfl
   |some x=>
    have:=h.1.1
    rw[i_]at this
    omega
  |false=>
   have b:i≠0:=λe=>by subst e;cases a
   cases h1:M (i%2) 1 with
   |true=>
    have c:=dE h1
    exact Tr.sL h.1.2 (i/2) (by
     grind)
   |false=>
    have c:i%2≠1:=λe=>ZD
    exact Tr.sL h.2 (i/2-1) (by
     grind)
def AH.PB(H:AH):Bool:=H.t.vS H.n (λi=>i)
def AH.Tv{H:AH}(h:H.PB=true):∀l,H.n<=l->H.get l= .dead:=λl hl=>by
 have:=Tr.sL h l hl
 simp only[AH.get,this]
def eT.Ab:eT->Bool
 | .dead=>true
 |_=>false
def eT.H4{b:eT}(h:b.Ab=true):b= .dead:=by cases b<;>first|rfl|cases h
structure im (n0:Nat) (labs:List Nat) (H H':AH):Prop where
 n:n0+labs.length=H'.n
 ge:(labs.all λx=>h_ n0 x||(H'.get x).Ab)=true
 nodup:sK labs=true
 low:H'.PB=true
 n1:n0<=H.n
 dF:Tu (λl=>tO (sig n0 labs H.n) H.n l H (H'.get l)) H'.n
def vT:∀{l}(_:sK l=true){i j x:Nat},l[i]? =z x->l[j]? =z x->i=j
 |[],_,i,j,x,h1,_=>by simp at h1
 |a::as,h,i,j,x,h1,b=>by
  simp only[sK]at h
  cases hm:sE as a with
  |true=>rw[hm]at h;cases h
  |false=>
   rw[hm,cond_false]at h
   have c:a∉as:=λe=>by rw[vL.2 e]at hm;cases hm
   cases i with
   |zero=>
    grind
   |succ i=>
    cases j with
    |zero=>
     grind
    |succ j=>
     simp at h1 b
     rw[vT h h1 b]
def Ac{n0 N l a}(h:l<n0):sig n0 a N l=l:=by
 have:m_ l n0=true:=by rw[i_];exact h
 simp[sig,this]
def K6{n0 N l a}(h:n0<=l):sig n0 a N l=match a[l-n0]? with|some x=>x|none=>N+l:=by
 have:m_ l n0=false:=by rw[Bool.eq_false_iff];intro e;rw[i_]at e;omega
 simp[sig,this]
def im.of{n0 a}{H H':AH}(b:n0+a.length=H'.n)(c:(a.all λx=>h_ n0 x||(H'.get x).Ab)=true)(d:sK a=true)(f:H'.PB=true)(i:h_ n0 H.n=true)
  (h:Tu (λl=>tO (sig n0 a H.n) H.n l H (H'.get l)) H'.n):im n0 a H H':=⟨b,c,d,f,ZD,h⟩
def im.le{n0:Nat}{a:List Nat}{H H':AH}(h:im n0 a H H'):AH.Le n0 (sig n0 a H.n) H H':=by
 have d:=AH.Tv h.low
 refine⟨by have:=h.n;omega,λl hl=>Ac hl,λl hl=>?_,λl=>?_,λl m v u e b=>?_,d⟩
 ·have:=h.n
  rw[K6 O,List.getElem?_eq_none O]
  simp
 ·by_cases hl:l<H'.n
  ·have:=gS.1 h.dF l hl
   unfold tO at this
   grind
  grind
 ·have c:∀l,n0<=l->(sig n0 a H.n l)<H.n->∃x,a[l-n0]? =z x/\sig n0 a H.n l=x:=λl hl b=>by
   rw[K6 hl]at b⊢
   grind
  have ge:∀x,x∈a->H'.get x≠ .dead->n0<=x:=λx hx o=>by
   have:=List.all_eq_true.1 h.ge x hx
   simp only[Bool.or_eq_true]at this
   rcases this with k|k
   simp_all
   ·exact absurd (eT.H4 k) o
  by_cases h1:l<n0
  ·rw[Ac h1]at e
   by_cases f:m<n0
   ·rw[Ac f]at e;exact e
   ·obtain⟨x,i,j⟩:=c m (b_ f) (by rw[<-e];have:=h.n1;omega)
    grind
  ·obtain⟨x,i,j⟩:=c l (b_ h1) b
   by_cases f:m<n0
   ·rw[Ac f]at e
    grind
   ·obtain⟨y,q,s⟩:=c m (b_ f) (by rw[<-e];exact b)
    have t:x=y:=by rw[<-j,<-s,e]
    subst t
    have:=vT h.nodup i q
    omega
def St.VA{n0 s b}(a)(h:im n0 a s.H b.H)(c:s.nt=b.nt)(ht:Tr.le (sig n0 a s.H.n) s.t b.t)(d:s.df=b.df.map (sig n0 a s.H.n)):St.Le n0 s b :=
 ⟨⟨_,h.le,c,ht,d⟩⟩
def ky.of{n0 a a' H H'}(b)(h:im n0 b H H')(c:AV.le (sig n0 b H.n) a a'):ky n0 a H a' H':=⟨⟨_,h.le,c⟩⟩
structure aC (P:Program) (I:ba) where
 f:FuncId
 spec:{R:Type}->RI R->Spec R
 ok:∀{R:Type}(X:RI R)(sem:R->Prop),X.Ok sem->∀args H kn kp,sem (spec X args H kn kp)->∃o:CO,o.sem sem kn kp/\af P I f args H o
def known{P:Program}{I:ba}{R:Type}(X:RI R):List (aC P I)->FuncId->Option (Spec R)
 |[],_=>g_
 |k::ks,f=>bif M f k.f then z (k.spec X)else known X ks f
def vU{P I R X}{sem:R->Prop}(hX:X.Ok sem):∀ks:List (aC P I),rl P I sem (known X ks)
 |[],f,s,h=>zE
 |k::ks,f,s,h=>by
  intro args H a kp b
  unfold known at h
  cases e:M f k.f with
  |true=>
   rw[e,cond_true,fE]at h
   subst h
   rw[dE e]
   exact k.ok X sem hX args H a kp b
  |false=>
   rw[e,cond_false]at h
   exact vU hX ks f s h args H a kp b
def af.pure{P I f args a}(h:af P I f args (e_ I.G) (.ret a (e_ I.G)))(b:∀σ,bt.bD σ args=args)(ha:∀σ,a.bD σ=a)(H):
  af P I f args H (.ret a H):=by
 intro c ρ w vs hG m d
 have o:I.G<=H.n:=by
  rw[<-hG]
  refine b_ λi=>?_
  obtain⟨N,j⟩:=d.fp H.n i
  rw[d.top _ (dw _)]at j;cases j
 have q:∀l,(e_ I.G).get l= .dead:=λl=>rfl
 let σ:Nat->Nat:=λl=>if l<I.G then l else H.n+(l-I.G)
 have s:Sub I.G σ (e_ I.G) H :=
  {lt:=λl hl=>by
    have:l<I.G:=hl
    grind
   ge:=λl hl=>by
    have :¬ l<I.G:=Nat.not_lt.2 hl
    simp only[σ,if_neg this];rfl
   same:=Y
   inj:=Y
   fp:=λg t=>⟨t,Y⟩
   low:=λl _=>q l}
 have ht:Eb σ (e_ I.G) (CO.ret a (e_ I.G)).heap H H :=
  {n:=by show H.n=H.n+(I.G-I.G);omega
   old:=Y
   new:=λl hl=>by
    have :¬ l<I.G:=Nat.not_lt.2 hl
    simp only[σ,if_neg this]
    rw[d.low _ O]
    rfl
   rest:=λ_ _ _=>rfl}
 have:=h.lift s ht
 rw[b]at this
 have e:(CO.ret a (e_ I.G)).iT σ H= .ret a H:=by
  show CO.ret (a.bD σ) H=_
  rw[ha]
 rw[e]at this
 exact this c ρ w vs hG m d
def uA{P:Program}{I:ba}(ks:List (aC P I))(a:gy Prop)(fuel:Nat):kf Prop:=run RI.jY I (known RI.jY ks) a (drawn RI.jY I PA) fuel
def nH{P I}(hI:I.Ok P)(ks:List (aC P I)){b}(a:eR P I id b)(fuel):Yd P I id (uA ks b fuel):=
 D6 RI.dJ hI (vU RI.dJ ks) a (KX RI.dJ hI PA) fuel
def jE{P:Program}{I:ba}(ks:List (aC P I))(a:gy Prop)(fuel:Nat):iQ Prop:=nB RI.jY I (λ_=>g_) (uA ks a fuel)
def fJ{P I}(hI:I.Ok P)(ks:List (aC P I)){b}(a:eR P I id b)(fuel):gN P I id (jE ks b fuel):=
 VU RI.dJ hI (λ_ _ h=>zE) (nH hI ks a fuel)
section
def eT.od:eT->eT
 | .cells cs _=> .cells cs .ro
 | .rows n e f _=> .rows n e f .ro
 | .str s _=> .str s .ro
 |b=>b
def eT.vV:eT->Bool
 | .cells _ _=>true
 | .rows _ _ _ _=>true
 | .str _ _=>true
 |_=>false
theorem aJ.od{ρ:Env}{w:World}{o:Option (Nat×Nat)}{cs:List AV}{a:Access}(h:aJ ρ w o cs a)(j:∀r N vs,o=z (r,N)->(∃el fr,w.heap[r]? =z (.cells vs.toArray el fr))->ρ.fz r=z vs):aJ ρ w o cs .ro:=by
 rcases h with h|⟨b,N,vs,rest,el,fr,h1,c,d,f,l,i,m⟩
 ·exact .inl h
 ·exact .inr ⟨b,N,vs,rest,el,fr,h1,c,d,f,⟨(λe=>zG),zA,zA⟩,i,λ_=>Y⟩
theorem Rel.freeze{c:fw}{ρ:Env}{H:AH}{w:World}(h:Rel c ρ H w){l:Nat}(m:(H.get l).vV=true)(D:(H.get l).rw=true):
  ∃ρ',Ext ρ ρ'/\ρ'.pl=ρ.pl/\Rel c ρ' (H.set l (H.get l).od) w:=by
 have q:∀i,i≠l->(H.set l (H.get l).od).get i=H.get i:=λi e=>y_ _ _ (λX=>e X.symm)
 have G:(H.get l).od.rw=false:=by
  cases o:H.get l<;>rw[o]at m<;>first|rfl|cases m
 have v:H.get l≠ .dead:=λe=>by rw[e]at D;cases D
 have Z:=h.oZ D
 have F:∀ρ':Env,ρ'.pl=ρ.pl->Ext ρ ρ'->bp ρ' w (ρ l) (H.get l).od->(∀b vs,ρ'.fz b=z vs->∃el fr,w.heap[b]? =z (.cells vs.toArray el fr))->
   (∀b,ρ'.fz b≠ρ.fz b->∃N,ρ l=z (b,N))->Rel c ρ' (H.set l (H.get l).od) w:=by
  intro ρ' t hx o K L
  refine⟨λi=>?_,λi i' r N y B d u E=>?_,λi r N d u=>?_,h.gH,h.size,h.os,h.output,h.tape,λi hi=>?_,λg hg=>?_,λi r N S u=>?_,λi hi=>?_,λi hi=>?_,K,λi r N d u=>?_,λb o=>?_,λb vs e=>hx.fz b vs (h.qZ b vs e)⟩
  ·by_cases e:i=l
   ·subst e;rw[f_,t];exact o
   ·rw[q i e,t];exact(h.dF i).ext hx
  ·have e:i≠l:=λe=>by subst e;rw[f_,G]at d;cases d
   rw[q i e]at d
   rw[t]at u E
   have S:=h.sep i i' r N y B d u E
   grind
  ·have e:i≠l:=λe=>by subst e;rw[f_,G]at d;cases d
   rw[q i e]at d
   rw[t]at u
   exact h.gL i r N d u
  ·rw[t];exact h.top i hi
  ·rw[t];exact h.fp g hg
  ·rw[t]at u
   by_cases e:i=l
   ·subst e;exact h.hid i r N v u
   ·rw[q i e]at S;exact h.hid i r N S u
  ·rw[t];exact h.env i hi
  ·rw[q i (by simp at hi;omega)];exact h.low i hi
  ·have e:i≠l:=λe=>by subst e;rw[f_,G]at d;cases d
   rw[q i e]at d
   rw[t]at u
   apply a_
   intro B
   have C:=h.pV i r N d u
   obtain⟨y,E⟩:=L r (by rw[C];exact B)
   exact v (h.sep i l r N y e d u E)
  ·apply a_
   intro B
   have C:=h.xw b o
   obtain⟨y,E⟩:=L b (by rw[C];exact B)
   exact h.hid l b y v E o
 cases Q:ρ l with
 |none=>
  refine⟨ρ,Ext.refl ρ,rfl,F ρ A (Ext.refl ρ) ?_ h.qY zA⟩
  have:=h.dF l
  rw[Q]at this⊢
  cases o:H.get l with
  |cells cs a=>rw[o]at this;exact aJ.od this zA
  |rows n e f a=>rw[o]at this;exact⟨this.1,aJ.od this.2 zA⟩
  |str s a=>rw[o]at this;exact aJ.od (cs:=byteCells s) this zA
  |_=>rw[o]at m;cases m
 |some x=>
  obtain⟨r,N⟩:=x
  have ad:=h.pV l r N D Q
  have j:=h.dF l
  rw[Q]at j
  have I:∃vs el fr,w.heap[r]? =z (.cells (List.toArray vs) el fr):=by
   cases o:H.get l with
   |cells cs a=>
    rw[o]at j
    rcases j with⟨_,V⟩|⟨b,y,vs,rest,el,fr,u,E,_⟩
    all_goals grind
   |rows n e f a=>
    rw[o]at j
    rcases j.2 with⟨_,V⟩|⟨b,y,vs,rest,el,fr,u,E,_⟩
    all_goals grind
   |str s a=>
    rw[o]at j
    rcases(j:aJ _ _ _ _ _)with⟨_,V⟩|⟨b,y,vs,rest,el,fr,u,E,_⟩
    all_goals grind
   |_=>rw[o]at m;cases m
  obtain⟨J,ag,ai,O⟩:=I
  let ρ':Env:=⟨ρ.pl,λb=>if b=r then z J else ρ.fz b⟩
  have T:ρ'.fz r=z J:=by show(if r=r then z J else _)=_;rw[if_pos A]
  have P:∀b,b≠r->ρ'.fz b=ρ.fz b:=Y
  have hx:Ext ρ ρ':=⟨λ_ _ e=>e,λb vs e=>by
   grind⟩
  refine⟨ρ',hx,rfl,F ρ' A hx ?_ ?_ ?_⟩
  ·have U:∀R y (vs:List Value),z (r,N)=z (R,y)->(∃el fr,w.heap[R]? =z (.cells vs.toArray el fr))->ρ'.fz R=z vs:=by
    intro R y vs e hh
    cases e
    obtain⟨el,fr,W⟩:=hh
    rw[O]at W
    cases W
    exact T
   rw[Q]
   cases o:H.get l with
   |cells cs a=>rw[o]at j;exact aJ.od (aJ.ext hx j) U
   |rows n e f a=>rw[o]at j;exact⟨j.1,aJ.od (aJ.ext hx j.2) U⟩
   |str s a=>rw[o]at j;exact aJ.od (cs:=byteCells s) (aJ.ext hx j) U
   |_=>rw[o]at m;cases m
  ·intro b vs e
   by_cases o:b=r
   grind
   ·rw[P b o]at e;exact h.qY b vs e
  grind
mutual
def AV.free:AV->Bool
 | .ptr _ _ _ _=>false
 | .slice _ _ _ _ _ _=>false
 | .own _ _ _=>false
 | .map (z _)=>false
 | .yield _=>false
 | .fn _ a b=>bt.free a&&bt.free b
 | .iface _ a=>a.free
 | .agg cs=>bt.free cs
 | .qP cs=>bt.free cs
 |_=>true
def bt.free:List AV->Bool
 |[]=>true
 |a::as=>a.free&&bt.free as
end
mutual
theorem VR.free{ρ:Env}:∀(a:AV)(v:Value),a.free=true->VR ρ a v->VR ρ.bare a v
 | .ptr _ _ _ _,_,h,_=>zE
 | .slice _ _ _ _ _ _,_,h,_=>zE
 | .own _ _ _,_,h,_=>zE
 | .map (z _),_,h,_=>zE
 | .yield _,_,h,_=>zE
 | .fn f a b,v,h,k=>by
  simp only[AV.free,bf]at h
  simp only[VR]at k⊢
  obtain⟨us,vs,e,r,s⟩:=k
  exact⟨us,vs,e,aU.free a us h.1 r,aU.free b vs h.2 s⟩
 | .iface t a,v,h,k=>by
  simp only[AV.free]at h
  simp only[VR]at k⊢
  obtain⟨u,e,r⟩:=k
  exact⟨u,e,VR.free a u h r⟩
 | .agg cs,v,h,k=>by
  simp only[AV.free]at h
  simp only[VR]at k⊢
  obtain⟨vs,e,r⟩:=k
  exact⟨vs,e,aU.free cs vs h r⟩
 | .qP cs,v,h,k=>by
  simp only[AV.free]at h
  simp only[VR]at k⊢
  obtain⟨vs,e,r⟩:=k
  exact⟨vs,e,aU.free cs vs h r⟩
 | .fc cs j,v,_,hk=>by
  simp only[VR]at hk⊢
  exact hk
 | .ab len e f,v,_,hk=>by
  simp only[VR]at hk⊢
  exact hk
 | .bool _,_,_,k=>zF
 | .int _ _,_,_,k=>zF
 | .str _,_,_,k=>zF
 | .nilPtr,_,_,k=>zF
 | .aw,_,_,k=>zF
 | .map g_,_,_,k=>zF
 | .aB,_,_,k=>zF
 | .addr _ _,_,_,k=>zF
 | .nilIface,_,_,k=>zF
 | .any,_,_,k=>zB
theorem aU.free{ρ:Env}:∀(as:List AV)(vs:List Value),bt.free as=true->aU ρ as vs->aU ρ.bare as vs
 |[],_,_,k=>by simpa only[aU]using k
 |a::as,vs,h,k=>by
  simp only[bt.free,bf]at h
  simp only[aU]at k⊢
  obtain⟨u,us,e,r,s⟩:=k
  exact⟨u,us,e,VR.free a u h.1 r,aU.free as us h.2 s⟩
end
def l6(H:AH)(l:Nat):Option AH :=
 match H.get l with
 | .cells _ .ro=>z H
 | .rows _ _ _ .ro=>z H
 | .str _ .ro=>z H
 | .cells _ (.ex _)=>g_
 | .rows _ _ _ (.ex _)=>g_
 | .str _ (.ex _)=>g_
 | .cells cs _=>z (H.set l (.cells cs .ro))
 | .rows n e f _=>z (H.set l (.rows n e f .ro))
 | .str s _=>z (H.set l (.str s .ro))
 |_=>g_
theorem Ad{H H' l}(h:l6 H l=z H'){c ρ w}(j:Rel c ρ H w):(H'.get l=(H.get l).od)/\((H.get l).vV=true)/\H'.n=H.n/\∃ρ',Ext ρ ρ'/\ρ'.pl=ρ.pl/\Rel c ρ' H' w:=by
 have key:∀b,(H.get l).vV=true->(H.get l).rw=true->b=(H.get l).od->H'=H.set l b->(H'.get l=(H.get l).od)/\((H.get l).vV=true)/\H'.n=H.n/\∃ρ',Ext ρ ρ'/\ρ'.pl=ρ.pl/\Rel c ρ' H' w:=by
  intro b k o p q
  subst p q
  obtain⟨ρ',e1,r,t⟩:=j.freeze k o
  exact⟨f_ _ _ _,k,rfl,ρ',e1,r,t⟩
 unfold l6 at h
 split at h
 ·rename_i cs d;cases h;rw[d];exact⟨rfl,rfl,rfl,ρ,Ext.refl ρ,rfl,j⟩
 ·rename_i n e f d;cases h;rw[d];exact⟨rfl,rfl,rfl,ρ,Ext.refl ρ,rfl,j⟩
 ·rename_i s d;cases h;rw[d];exact⟨rfl,rfl,rfl,ρ,Ext.refl ρ,rfl,j⟩
 ·cases h
 ·cases h
 ·cases h
 ·rename_i cs a g i d
  cases h
  refine key _ (by rw[d];rfl) ?_ (by rw[d];rfl) A
  rw[d]
  cases a with
  |ro=>exact absurd A g
  |ex m=>grind
  |_=>rfl
 ·rename_i n e f a g i d
  cases h
  refine key _ (by rw[d];rfl) ?_ (by rw[d];rfl) A
  rw[d]
  cases a with
  |ro=>exact absurd A g
  |ex m=>grind
  |_=>rfl
 ·rename_i s a g i d
  cases h
  refine key _ (by rw[d];rfl) ?_ (by rw[d];rfl) A
  rw[d]
  cases a with
  |ro=>exact absurd A g
  |ex m=>grind
  |_=>rfl
 ·cases h
theorem aJ.PC{ρ:Env}{w:World}{o:Option (Nat×Nat)}{cs:List AV}{a:Access}(h:aJ ρ w o cs a):∃vs,aU ρ cs vs:=by
 rcases h with⟨rfl,_⟩|⟨b,N,vs,rest,el,fr,h1,d,f,c,_⟩
 ·exact⟨[],zH⟩
 ·exact⟨vs,c⟩
theorem aJ.fz{ρ:Env}{w:World}{b N:Nat}{cs:List AV}(h:aJ ρ w (z (b,N)) cs .ro):∃vs rest,aU ρ cs vs/\(∀v∈vs,v.oneCell'=true)/\ρ.fz b=z (vs++rest):=by
 rcases h with⟨_,h⟩|⟨b,N,vs,rest,el,fr,h1,a,c,d,f,i,j⟩
 all_goals grind
theorem rq{α:Type}{l:List α}{o e}:∀{n},o+n*e<=l.length->(d_ n).flatMap (λi=>(l.drop (o+i*e)).take e)=(l.drop o).take (n*e)
 |0,_=>zA
 |n+1,h=>by
  rw[l_]at h
  rw[List.range_succ,List.flatMap_append,rq (n:=n) O,l_,List.take_add,List.drop_drop]
  simp
theorem qR.sub{ρ b vs rest}(h:ρ.fz b=z (vs++rest))(a:∀v∈vs,v.oneCell'=true)(o m)(hl:o<=vs.length):qR ρ b o ((vs.drop o).take m):=by
 refine⟨λv c=>Y,vs.take o,(vs.drop o).drop m++rest,by simp;omega,?_⟩
 rw[h,k_,<-k_ ((vs.drop o).take m),s_,<-k_,s_]
theorem qR.all{ρ:Env}{b:Nat}{vs rest:List Value}(h:ρ.fz b=z (vs++rest))(a:∀v∈vs,v.oneCell'=true):qR ρ b 0 vs:=⟨a,[],rest,rfl,by simpa using h⟩
theorem qR.rows{ρ:Env}{b:Nat}{vs rest:List Value}(h:ρ.fz b=z (vs++rest))(a:∀v∈vs,v.oneCell'=true){o e len:Nat}(hl:o+len*e<=vs.length):
  qR ρ b o ((d_ len).flatMap λi=>(vs.drop (o+i*e)).take e)/\∀i,i<len->((vs.drop (o+i*e)).take e).length=e:=by
 refine⟨by rw[rq hl];exact qR.sub h a o _ O,λi hi=>?_⟩
 have:i*e+e<=len*e:=by
  have:=t_ e (O:i+1<=len)
  rwa[l_]at this
 simp;omega
theorem aJ.K7{ρ w b N n e f}(d:∀i,i<n->(f i).length=e)(h:aJ ρ w (z (b,N)) (rowsOf n f) .ro)(a:∀i,i<n->bt.free (f i)=true):
  ∃c,qR ρ b 0 ((d_ n).flatMap c)/\∀i,i<n->(c i).length=e/\aU ρ.bare (f i) (c i):=by
 obtain⟨vs,rest,j,l,m⟩:=h.fz
 have hl:vs.length=n*e:=by rw[<-j.length_eq];exact nX d
 obtain⟨k1,k2⟩:=qR.rows m l (o:=0) (e:=e) (len:=n) O
 refine⟨_,k1,λi hi=>⟨k2 i hi,aU.free _ _ (a i hi) ?_⟩⟩
 obtain⟨t,ht⟩:=lL d hi
 have:=(j.drop (i*e)).take e
 grind
section
variable {R:Type} (X:RI R)
mutual
def qC:Nat->AV->AH->(AV->AH->R)->R
 |0,_,_,_=>X.fail
 |d+1,a,H,K=>match a with
  | .ptr l k e j=>match l6 H l with
   |some H1=>match H1.get l with
    | .cells cs _=>jK d cs H1 λc H2=>K (.fc c (k*e+j)) H2
    | .rows n g f _=>X.bq (((d_ n).all λi=>bt.free (f i))&&o_ (k<n)) (if e=g then K (.fc (f k) j) H1 else X.fail)
    |_=>X.fail
   |none=>X.fail
  | .slice l base k len _ e=>match l6 H l with
   |some H1=>match H1.get l with
    | .cells cs _=>jK d cs H1 λc H2=>X.bq (o_ (base+k*e+len*e<=cs.length)) (K (.ab len e (λi=>(c.drop (base+k*e+i*e)).take e)) H2)
    | .rows n g f _=>if e=g/\base=0 then X.bq (((d_ n).all λi=>bt.free (f i))&&o_ (k+len<=n)) (K (.ab len e (λi=>f (k+i))) H1)else X.fail
    | .str s _=>if e=1/\base=0 then X.bq (o_ (k+len<=s.length)) (K (.ab len 1 (λi=>gx s (k+i))) H1)else X.fail
    |_=>X.fail
   |none=>X.fail
  | .own l len e=>match l6 H l with
   |some H1=>match H1.get l with
    | .cells cs _=>jK d cs H1 λc H2=>X.bq (o_ (len*e<=cs.length)) (K (.ab len e (λi=>(c.drop (i*e)).take e)) H2)
    | .rows n g f _=>if e=g then X.bq (((d_ n).all λi=>bt.free (f i))&&o_ (len<=n)) (K (.ab len e f) H1)else X.fail
    | .str s _=>if e=1 then X.bq (o_ (len<=s.length)) (K (.ab len 1 (gx s)) H1)else X.fail
    |_=>X.fail
   |none=>X.fail
  | .map (z _)=>X.fail
  | .yield _=>X.fail
  | .fn f a b=>jK d a H λa' H1=>jK d b H1 λm H2=>K (.fn f a' m) H2
  | .iface t a=>qC d a H λa' H1=>K (.iface t a') H1
  | .agg cs=>jK d cs H λc H1=>K (.agg c) H1
  | .qP cs=>jK d cs H λc H1=>K (.qP c) H1
  |a=>K a H
def jK:Nat->List AV->AH->(List AV->AH->R)->R
 |0,_,_,_=>X.fail
 |d+1,as,H,K=>match as with
  |[]=>K [] H
  |a::as=>qC d a H λa' H1=>jK d as H1 λh H2=>K (a'::h) H2
end
end
section
variable {R:Type} {X:RI R} {sem:R->Prop} (hX:X.Ok sem)
def j4(a:AV)(H:AH)(a':AV)(H':AH):Prop:=H'.n=H.n/\∀c ρ w v,Rel c ρ H w->VR ρ a v->∃ρ',Ext ρ ρ'/\Rel c ρ' H' w/\VR ρ'.bare a' v
def sM(a:List AV)(H:AH)(a':List AV)(H':AH):Prop:=H'.n=H.n/\∀c ρ w v,Rel c ρ H w->aU ρ a v->∃ρ',Ext ρ ρ'/\Rel c ρ' H' w/\aU ρ'.bare a' v
theorem Ext.bb{a b}(h:Ext a b):Ext a.bare b.bare:=h.bare
include hX in
mutual
theorem lm:∀(d:Nat)(a:AV)(H:AH)(K:AV->AH->R),sem (qC X d a H K)->∃a' H',sem (K a' H')/\j4 a H a' H'
 |0,a,H,K,h=>by simp only[qC]at h;exact zR
 |d+1,a,H,K,h=>by
  have same:∀a:AV,a.free=true->sem (K a H)->∃a' H',sem (K a' H')/\j4 a H a' H':=λa ha h=>
   ⟨a,H,h,rfl,λc ρ w v p g=>⟨ρ,Ext.refl ρ,p,VR.free a v ha g⟩⟩
  have F:∀{l:Nat}{H1:AH}{cs:List AV}{rw:Access}{K':List AV->AH->R},l6 H l=z H1->H1.get l= .cells cs rw->sem (jK X d cs H1 K')->
    ∃P H2,sem (K' P H2)/\H2.n=H.n/\∀c ρ w,Rel c ρ H w->∃ρ',Ext ρ ρ'/\Rel c ρ' H2 w/\∀b N,ρ l=z (b,N)->∃vs rest,aU ρ'.bare P vs/\cs.length=vs.length/\(∀v∈vs,v.oneCell'=true)/\ρ'.fz b=z (vs++rest):=by
   intro l H1 cs rw K' q C E
   obtain⟨P,H2,e1,I,G⟩:=gC d cs H1 K' E
   refine⟨P,H2,e1,?_,λc ρ w p=>?_⟩
   ·unfold l6 at q
    split at q<;>cases q<;>exact I
   ·obtain⟨f1,Y,_,D,f3,f4,f5⟩:=Ad q p
    have U:rw= .ro:=by
     rw[C]at f1
     cases r:H.get l<;>rw[r]at f1 Y<;>simp[eT.od,eT.vV]at f1 Y
     exact f1.2
    subst U
    have r:=f5.dF l
    rw[C,f4]at r
    cases ho:ρ l with
    |none=>
     rw[ho]at r
     obtain⟨vs,ag⟩:=aJ.PC r
     obtain⟨Q,g1,g2,g3⟩:=G c D w vs f5 ag
     exact⟨Q,f3.trans g1,g2,λb N e=>zG⟩
    |some x=>
     obtain⟨b,N⟩:=x
     rw[ho]at r
     obtain⟨vs,rest,k1,k2,k3⟩:=aJ.fz r
     obtain⟨Q,g1,g2,g3⟩:=G c D w vs f5 k1
     exact⟨Q,f3.trans g1,g2,λb' N' e=>by cases e;exact⟨vs,rest,g3,k1.length_eq,k2,g1.fz _ _ k3⟩⟩
  have S:∀{l:Nat}{H1:AH}{n e:Nat}{f:Nat->List AV}{rw:Access},l6 H l=z H1->H1.get l= .rows n e f rw->((d_ n).all λi=>bt.free (f i))=true->
    H1.n=H.n/\∀c ρ w,Rel c ρ H w->∃ρ',Ext ρ ρ'/\Rel c ρ' H1 w/\∀b N,ρ l=z (b,N)->∃B,qR ρ' b 0 ((d_ n).flatMap B)/\∀i,i<n->(B i).length=e/\aU ρ'.bare (f i) (B i):=by
   intro l H1 n e f rw q C E
   refine⟨?_,λc ρ w p=>?_⟩
   ·unfold l6 at q
    split at q<;>cases q<;>rfl
   ·obtain⟨f1,Y,_,D,f3,f4,f5⟩:=Ad q p
    have U:rw= .ro:=by
     rw[C]at f1
     cases r:H.get l<;>rw[r]at f1 Y<;>simp[eT.od,eT.vV]at f1 Y
     exact f1.2.2.2
    subst U
    refine⟨D,f3,f5,λb N ho=>?_⟩
    have r:=f5.dF l
    rw[C,f4,ho]at r
    exact aJ.K7 r.1 r.2 λi hi=>List.all_eq_true.1 E i (List.mem_range.2 hi)
  have Z:∀{l:Nat}{H1:AH}{s:List UInt8}{rw:Access},l6 H l=z H1->H1.get l= .str s rw->
    H1.n=H.n/\∀c ρ w,Rel c ρ H w->∃ρ',Ext ρ ρ'/\Rel c ρ' H1 w/\∀b N,ρ l=z (b,N)->∃B,qR ρ' b 0 ((d_ s.length).flatMap B)/\∀i,i<s.length->(B i).length=1/\aU ρ'.bare (gx s i) (B i):=by
   intro l H1 s rw q C
   refine⟨?_,λc ρ w p=>?_⟩
   ·unfold l6 at q
    split at q<;>cases q<;>rfl
   ·obtain⟨f1,Y,_,D,f3,f4,f5⟩:=Ad q p
    have U:rw= .ro:=by
     rw[C]at f1
     cases r:H.get l<;>rw[r]at f1 Y<;>simp[eT.od,eT.vV]at f1 Y
     exact f1.2
    subst U
    refine⟨D,f3,f5,λb N ho=>?_⟩
    have r:=(f5.dF l).un
    rw[C,f4,ho]at r
    exact aJ.K7 (e:=1) r.1 r.2 λi hi=>rfl
  cases a with
  |ptr l k e j=>
   simp only[qC]at h
   split at h
   ·rename_i H1 q
    split at h
    ·rename_i cs rw C
     obtain⟨P,H2,e1,I,G⟩:=F q C h
     refine⟨_,H2,e1,I,λc ρ w v p g=>?_⟩
     simp only[VR]at g
     obtain⟨b,N,r,rfl⟩:=g
     obtain⟨ρ',g1,g2,g3⟩:=G c ρ w p
     obtain⟨vs,rest,g4,J,g6,g7⟩:=g3 b N r
     refine⟨ρ',g1,g2,?_⟩
     simp only[VR]
     exact⟨b,0,vs,zA,qR.all (ρ:=ρ'.bare) g7 g6,g4⟩
    ·rename_i n e' f rw C
     obtain⟨E,T⟩:=hX.bq _ _ h
     simp only[bf,bn]at E
     split at T
     ·rename_i ai
      subst ai
      obtain⟨I,G⟩:=S q C E.1
      refine⟨_,H1,T,I,λc ρ w v p g=>?_⟩
      simp only[VR]at g
      obtain⟨b,N,r,rfl⟩:=g
      obtain⟨ρ',g1,g2,g3⟩:=G c ρ w p
      obtain⟨B,g4,J⟩:=g3 b N r
      refine⟨ρ',g1,g2,?_⟩
      simp only[VR]
      have:=g4.row (λi hi=>(J i hi).1) E.2
      simp only[c_]at this
      exact⟨b,k*e,B k,zA,this,(J k E.2).2⟩
     ·exact absurd T hX.fail
    ·exact zR
   ·exact zR
  |slice l base k len cap e=>
   simp only[qC]at h
   split at h
   ·rename_i H1 q
    split at h
    ·rename_i cs rw C
     obtain⟨P,H2,e1,I,G⟩:=F q C h
     obtain⟨ad,e1⟩:=hX.bq _ _ e1
     simp only[bn]at ad
     refine⟨_,H2,e1,I,λc ρ w v p g=>?_⟩
     simp only[VR]at g
     obtain⟨b,N,V,a,r,rfl,hl,L,_⟩:=g
     obtain⟨ρ',g1,g2,g3⟩:=G c ρ w p
     obtain⟨vs,rest,g4,J,g6,g7⟩:=g3 b N r
     refine⟨ρ',g1,g2,?_⟩
     simp only[VR]
     obtain⟨g8,g9⟩:=qR.rows (ρ:=ρ'.bare) g7 g6 (o:=base+k*e) (e:=e) (len:=len) O
     exact .inr ⟨b,base+k*e,V,a,_,rfl,hl,λhp=>⟨(L O).1,g8,λi hi=>⟨g9 i hi,(g4.drop _).take _⟩⟩⟩
    ·rename_i n e' f rw C
     split at h
     ·rename_i hc
      obtain⟨rfl,rfl⟩:=hc
      obtain⟨E,T⟩:=hX.bq _ _ h
      simp only[bf,bn]at E
      obtain⟨I,G⟩:=S q C E.1
      refine⟨_,H1,T,I,λc ρ w v p g=>?_⟩
      simp only[VR]at g
      obtain⟨b,N,V,a,r,rfl,hl,L,_⟩:=g
      obtain⟨ρ',g1,g2,g3⟩:=G c ρ w p
      obtain⟨B,g4,J⟩:=g3 b N r
      refine⟨ρ',g1,g2,?_⟩
      simp only[VR]
      have:=g4.part (λi hi=>(J i hi).1) E.2
      simp only[c_]at this
      refine .inr ⟨b,k*e,V,a,λi=>B (k+i),rfl,hl,λhp=>⟨by rw[(L O).1,c_],this,λi hi=>J _ O⟩⟩
     ·exact zR
    ·rename_i s rw C
     split at h
     ·rename_i hc
      obtain⟨rfl,rfl⟩:=hc
      obtain⟨E,T⟩:=hX.bq _ _ h
      simp only[bn]at E
      obtain⟨I,G⟩:=Z q C
      refine⟨_,H1,T,I,λc ρ w v p g=>?_⟩
      simp only[VR]at g
      obtain⟨b,N,V,a,r,rfl,hl,L,_⟩:=g
      obtain⟨ρ',g1,g2,g3⟩:=G c ρ w p
      obtain⟨B,g4,J⟩:=g3 b N r
      refine⟨ρ',g1,g2,?_⟩
      simp only[VR]
      have:=g4.part (λi hi=>(J i hi).1) E
      simp only[c_]at this
      refine .inr ⟨b,k*1,V,a,λi=>B (k+i),rfl,hl,λhp=>⟨by rw[(L O).1,c_],this,λi hi=>J _ O⟩⟩
     ·exact zR
    ·exact zR
   ·exact zR
  |own l len e=>
   simp only[qC]at h
   split at h
   ·rename_i H1 q
    split at h
    ·rename_i cs rw C
     obtain⟨P,H2,e1,I,G⟩:=F q C h
     obtain⟨ad,e1⟩:=hX.bq _ _ e1
     simp only[bn]at ad
     refine⟨_,H2,e1,I,λc ρ w v p g=>?_⟩
     simp only[VR]at g
     obtain⟨ρ',g1,g2,g3⟩:=G c ρ w p
     refine⟨ρ',g1,g2,?_⟩
     simp only[VR]
     rcases g with g|⟨b,N,V,r,rfl,hl,L⟩
     ·exact .inl g
     ·obtain⟨vs,rest,g4,J,g6,g7⟩:=g3 b N r
      obtain⟨g8,g9⟩:=qR.rows (ρ:=ρ'.bare) g7 g6 (o:=0) (e:=e) (len:=len) O
      simp only[c_]at g8 g9
      exact .inr ⟨b,0,V,_,_,rfl,hl,λhp=>⟨rfl,g8,λi hi=>⟨g9 i hi,(g4.drop _).take _⟩⟩⟩
    ·rename_i n e' f rw C
     split at h
     ·rename_i hc
      subst hc
      obtain⟨E,T⟩:=hX.bq _ _ h
      simp only[bf,bn]at E
      obtain⟨I,G⟩:=S q C E.1
      refine⟨_,H1,T,I,λc ρ w v p g=>?_⟩
      simp only[VR]at g
      obtain⟨ρ',g1,g2,g3⟩:=G c ρ w p
      refine⟨ρ',g1,g2,?_⟩
      simp only[VR]
      rcases g with g|⟨b,N,V,r,rfl,hl,L⟩
      ·exact .inl g
      ·obtain⟨B,g4,J⟩:=g3 b N r
       have:=g4.part (λi hi=>(J i hi).1) (k:=0) (m:=len) O
       simp only[v_,w_,c_]at this
       exact .inr ⟨b,0,V,_,B,rfl,hl,λhp=>⟨rfl,this,λi hi=>J i O⟩⟩
     ·exact zR
    ·rename_i s rw C
     split at h
     ·rename_i hc
      subst hc
      obtain⟨E,T⟩:=hX.bq _ _ h
      simp only[bn]at E
      obtain⟨I,G⟩:=Z q C
      refine⟨_,H1,T,I,λc ρ w v p g=>?_⟩
      simp only[VR]at g
      obtain⟨ρ',g1,g2,g3⟩:=G c ρ w p
      refine⟨ρ',g1,g2,?_⟩
      simp only[VR]
      rcases g with g|⟨b,N,V,r,rfl,hl,L⟩
      ·exact .inl g
      ·obtain⟨B,g4,J⟩:=g3 b N r
       have:=g4.part (λi hi=>(J i hi).1) (k:=0) (m:=len) O
       simp only[v_,w_,c_]at this
       exact .inr ⟨b,0,V,_,B,rfl,hl,λhp=>⟨rfl,this,λi hi=>J i O⟩⟩
     ·exact zR
    ·exact zR
   ·exact zR
  |map l=>
   cases l with
   |none=>simp only[qC]at h;exact same _ A h
   |some l=>simp only[qC]at h;exact zR
  |yield l=>simp only[qC]at h;exact zR
  |fn f x y=>
   simp only[qC]at h
   obtain⟨x',H1,q,C,E⟩:=gC d x H _ h
   obtain⟨y',H2,T,h5,h6⟩:=gC d y H1 _ q
   refine⟨_,H2,T,h5.trans C,λc ρ w v p g=>?_⟩
   simp only[VR]at g
   obtain⟨us,vs,rfl,k1,k2⟩:=g
   obtain⟨D,a1,a2,W⟩:=E c ρ w us p k1
   obtain⟨Q,b1,b2,b3⟩:=h6 c D w vs a2 (aU.ext a1 _ _ k2)
   refine⟨Q,a1.trans b1,b2,?_⟩
   simp only[VR]
   exact⟨us,vs,rfl,aU.ext b1.bare _ _ W,b3⟩
  |iface t x=>
   simp only[qC]at h
   obtain⟨x',H1,q,C,E⟩:=lm d x H _ h
   refine⟨_,H1,q,C,λc ρ w v p g=>?_⟩
   simp only[VR]at g
   obtain⟨u,rfl,k1⟩:=g
   obtain⟨D,a1,a2,W⟩:=E c ρ w u p k1
   refine⟨D,a1,a2,?_⟩
   simp only[VR]
   exact⟨u,rfl,W⟩
  |agg cs=>
   simp only[qC]at h
   obtain⟨x',H1,q,C,E⟩:=gC d cs H _ h
   refine⟨_,H1,q,C,λc ρ w v p g=>?_⟩
   simp only[VR]at g
   obtain⟨us,rfl,k1⟩:=g
   obtain⟨D,a1,a2,W⟩:=E c ρ w us p k1
   refine⟨D,a1,a2,?_⟩
   simp only[VR]
   exact⟨us,rfl,W⟩
  |qP cs=>
   simp only[qC]at h
   obtain⟨x',H1,q,C,E⟩:=gC d cs H _ h
   refine⟨_,H1,q,C,λc ρ w v p g=>?_⟩
   simp only[VR]at g
   obtain⟨us,rfl,k1⟩:=g
   obtain⟨D,a1,a2,W⟩:=E c ρ w us p k1
   refine⟨D,a1,a2,?_⟩
   simp only[VR]
   exact⟨us,rfl,W⟩
  |_=>simp only[qC]at h;exact same _ A h
theorem gC:∀(d:Nat)(a:List AV)(H:AH)(K:List AV->AH->R),sem (jK X d a H K)->∃a' H',sem (K a' H')/\sM a H a' H'
 |0,a,H,K,h=>by simp only[jK]at h;exact zR
 |d+1,[],H,K,h=>by
  simp only[jK]at h
  exact⟨[],H,h,rfl,λc ρ w v p g=>⟨ρ,Ext.refl ρ,p,by simpa only[aU]using g⟩⟩
 |d+1,a::as,H,K,h=>by
  simp only[jK]at h
  obtain⟨x,H1,q,C,E⟩:=lm d a H _ h
  obtain⟨y,H2,T,h5,h6⟩:=gC d as H1 _ q
  refine⟨_,H2,T,h5.trans C,λc ρ w v p g=>?_⟩
  simp only[aU]at g
  obtain⟨u,us,rfl,k1,k2⟩:=g
  obtain⟨D,a1,a2,W⟩:=E c ρ w u p k1
  obtain⟨Q,b1,b2,b3⟩:=h6 c D w us a2 (aU.ext a1 _ _ k2)
  exact⟨Q,a1.trans b1,b2,aU.aL.2 ⟨VR.ext b1.bare _ _ W,b3⟩⟩
end
end
theorem af.nI{P:Program}{I:ba}{f:FuncId}{args a:List AV}{H H':AH}{o:CO}(d:sM args H a H')(h:af P I f a H' o):af P I f args H o:=by
 intro c ρ w vs hG i j
 obtain⟨b,l,m,q⟩:=d.2 c ρ w vs j i
 have post:∀e w',o.post c b e w'->o.post c ρ e w':=λe w' s=>CO.gO l s
 rcases h c b w vs hG (aU.ext (Ext.qU b) _ _ q) m with⟨k1,k2⟩|⟨v,w',k1,k2⟩
 ·exact .inl ⟨k1,k2.mono post⟩
 grind
theorem af.vW{P:Program}{I:ba}{f:FuncId}{args:List AV}{H H1 H2:AH}{a a':AV}(h:af P I f args H (.ret a H1))(j:j4 a H1 a' H2):af P I f args H (.ret a' H2):=by
 intro c ρ w vs hG l m
 have post:∀e w',(CO.ret a H1).post c ρ e w'->(CO.ret a' H2).post c ρ e w':=by
  intro e w' d
  cases e with
  |returned v=>
   obtain⟨i,k1,k2,o⟩:=d
   obtain⟨b,g1,g2,g3⟩:=j.2 c i w' v k2 o
   exact⟨b,k1.trans g1,g2,VR.ext (Ext.qU b) _ _ g3⟩
  |panicked q=>exact d.elim
  |outgrown=>exact d.elim
 rcases h c ρ w vs hG l m with⟨k1,k2⟩|⟨v,w',k1,k2⟩
 ·exact .inl ⟨k1,k2.mono post⟩
 grind
def fk(n0:Nat)(Q:AV->Prop):AV->AH->Prop:=λa H1=>qC RI.jY 100000 a H1 λa' H2=>aa (h_ n0 H2.n) (Q a')
theorem af.VB{P I}(hI:I.Ok P)(ks:List (aC P I)){i}(b:eR P I id i)(fuel){f args a'}
  (c:∀σ,AV.le σ a' a') (h:jE ks i fuel f args (e_ I.G) (fk I.G λa=>a=a') (λ_ _=>False)):af P I f args (e_ I.G) (.ret a' (e_ I.G)):=by
 obtain⟨o,j,l⟩:=fJ hI ks b fuel f args (e_ I.G) _ _ h
 cases o with
 |ret a H1=>
  obtain⟨x,H2,k1,k2⟩:=lm RI.dJ _ _ _ _ j
  cases d:h_ I.G H2.n with
  |false=>
   have k1:aa (h_ I.G H2.n) (x=a'):=k1
   rw[d]at k1;exact k1.elim
  |true=>
   have k1:aa (h_ I.G H2.n) (x=a'):=k1
   rw[d]at k1
   have k1:x=a':=k1
   subst k1
   exact(l.vW k2).le (ky.of [] (im.of (by rfl) A A A d (gS.2 λ_ _=>trivial)) (c _))
 |qt a H1=>exact j.elim
def aC.pure{P:Program}{I:ba}(f:FuncId)(spec:{R:Type}->RI R->List AV->(AV->R)->R)
  (ok:∀{R:Type}(X:RI R)(sem:R->Prop),X.Ok sem->∀args c,sem (spec X args c)->∃a,sem (c a)/\(∀σ,a.bD σ=a)/\(∀σ,bt.bD σ args=args)/\af P I f args (e_ I.G) (.ret a (e_ I.G))):aC P I where
 f:=f
 spec X args H c _:=jK X 100000 args H λb H'=>spec X b λa=>c a H'
 ok X sem hX args H c kp h:=by
  obtain⟨b,H',d,i⟩:=gC hX _ _ _ _ h
  obtain⟨a,k1,k2,j,l⟩:=ok X sem hX _ _ d
  exact⟨.ret a H',k1,(l.pure j k2 H').nI i⟩
end
def fW(cs:List AV)(e i:Nat):List AV:=(cs.drop (i*e)).take e
def an(n:Nat)(f g:Nat->List AV):Prop := ∀i,i<n->∀σ,bt.le σ (f i) (g i)
def Zj{n:Nat}{f:Nat->List AV}(h:∀σ i,bt.le σ (f i) (f i)):an n f f:=λi _ σ=>h σ i
def ax(a b:Nat)(K:Prop):Prop:=match M a b with|true=>K|false=>a=b/\K
def aH(a b:Int)(K:Prop):Prop:=match o_ (a=b)with|true=>K|false=>a=b/\K
def bI(a b:List UInt8)(K:Prop):Prop:=a=b/\K
def Zi{a b:List UInt8}{K:Prop}(h:a=b)(k:K):bI a b K:=⟨h,k⟩
def ax.ok{a b:Nat}{K:Prop}(h:ax a b K):a=b/\K:=by
 unfold ax at h
 split at h
 ·rename_i e;exact⟨dE e,h⟩
 ·exact h
def YG{a b:Nat}{K:Prop}(h:a=b)(k:K):ax a b K:=by
 unfold ax
 split
 ·exact k
 ·exact⟨h,k⟩
def aH.ok{a b:Int}{K:Prop}(h:aH a b K):a=b/\K:=by
 unfold aH at h
 split at h
 ·rename_i e;exact⟨pT e,h⟩
 ·exact h
def Zf{a b:Int}{K:Prop}(h:a=b)(k:K):aH a b K:=by
 unfold aH
 split
 ·exact k
 ·exact⟨h,k⟩
def Tw(c a:Option Nat)(K:Prop):Prop :=
 match a with
 |none=>K
 |some b=>match c with
  |some n=>ax n b K
  |none=>False
mutual
def AV.lq(σ:Nat->Nat):AV->AV->Prop->Prop
 |_,.any,K=>K
 | .bool a,.bool b,K=>a=b/\K
 | .int k x,.int u y,K=>aa (o_ (k=u)) (aH x y K)
 | .str s,.str t,K=>bI s t K
 | .ptr a b c d,.ptr a' h i l,K=>aa (M a (σ a')) (ax b h (ax c i (ax d l K)))
 | .nilPtr,.nilPtr,K=>K
 | .slice a b c d e f,.slice a' h i l m o,K=>aa (M a (σ a')&&M b h&&M f o) (ax c i (ax d l (Tw e m K)))
 | .aw,.aw,K=>K
 | .aw,.own _ n _,K=>ax n 0 K
 | .aw,.ab n _ _,K=>ax n 0 K
 | .own a b c,.own a' h i,K=>aa (M a (σ a')&&M c i) (ax b h K)
 | .map g_,.map g_,K=>K
 | .map (z a),.map (z b),K=>aa (M a (σ b)) K
 | .fn f a b,.fn o a' h,K=>aa (M f o) (bt.lq σ a a' (bt.lq σ b h K))
 | .yield a,.yield b,K=>aa (M a (σ b)) K
 | .aB,.aB,K=>K
 | .nilIface,.nilIface,K=>K
 | .iface t a,.iface v a',K=>aa (M t v) (AV.lq σ a a' K)
 | .agg a,.agg b,K=>bt.lq σ a b K
 | .qP a,.qP b,K=>bt.lq σ a b K
 | .fc cs j,.fc q w,K=>aa (M j w) (bt.lq σ cs q K)
 | .ab n e f,.ab B m g,K=>aa (M e m) (ax n B (an n f g/\K))
 | .addr a b,.addr a' h,K=>ax a a' (ax b h K)
 |_,_,_=>False
def bt.lq(σ:Nat->Nat):List AV->List AV->Prop->Prop
 |[],[],K=>K
 |a::as,b::C,K=>AV.lq σ a b (bt.lq σ as C K)
 |_,_,_=>False
end
def Zk{b:Bool}{x:Prop}(h:aa b x):b=true/\x:=by
 cases b with
 |true=>exact⟨rfl,h⟩
 |false=>exact h.elim
def PD{c a:Option Nat}{K:Prop}(h:Tw c a K):(∀x,a=z x->c=z x)/\K:=by
 unfold Tw at h
 split at h
 ·exact⟨(λ_ e=>zG),h⟩
 ·split at h
  ·obtain⟨rfl,b⟩:=ax.ok h;exact⟨λ_ e=>e,b⟩
  ·exact h.elim
mutual
def AV.eI{σ:Nat->Nat}:∀(a b:AV)(K:Prop),AV.lq σ a b K->AV.le σ a b/\K
 | .bool _,b,K,h=>by cases b<;>simp only[AV.lq]at h<;>simp only[AV.le]<;>simp_all
 | .int _ _,b,K,h=>by
  cases b<;>simp only[AV.lq]at h<;>simp only[AV.le]
  ·obtain⟨d,c⟩:=Zk h;obtain⟨c,f⟩:=aH.ok c;simp only[bn]at d;exact⟨⟨d,c⟩,f⟩
  ·exact⟨trivial,h⟩
 | .str _,b,K,h=>by cases b<;>simp only[AV.lq]at h<;>simp only[AV.le]<;>first|exact h|exact⟨trivial,h⟩
 | .ptr _ _ _ _,b,K,h=>by
  cases b<;>simp only[AV.lq]at h<;>simp only[AV.le]
  ·obtain⟨d,c⟩:=Zk h;obtain⟨c,f⟩:=ax.ok c;obtain⟨f,j⟩:=ax.ok f;obtain⟨j,m⟩:=ax.ok j;exact⟨⟨dE d,c,f,j⟩,m⟩
  ·exact⟨trivial,h⟩
 | .nilPtr,b,K,h=>by cases b<;>simp only[AV.lq]at h<;>simp only[AV.le]<;>simp_all
 | .slice _ _ _ _ _ _,b,K,h=>by
  cases b<;>simp only[AV.lq]at h<;>simp only[AV.le]
  ·obtain⟨d,c⟩:=Zk h
   obtain⟨c,f⟩:=ax.ok c
   obtain⟨f,j⟩:=ax.ok f
   obtain⟨m,o⟩:=PD j
   simp only[bf]at d
   exact⟨⟨dE d.1.1,dE d.1.2,c,f,m,dE d.2⟩,o⟩
  ·exact⟨trivial,h⟩
 | .aw,b,K,h=>by cases b<;>simp only[AV.lq]at h<;>simp only[AV.le]<;>first|exact⟨trivial,h⟩|exact ax.ok h
 | .own _ _ _,b,K,h=>by
  cases b<;>simp only[AV.lq]at h<;>simp only[AV.le]
  ·obtain⟨d,c⟩:=Zk h
   obtain⟨c,f⟩:=ax.ok c
   simp only[bf]at d
   exact⟨⟨dE d.1,c,dE d.2⟩,f⟩
  ·exact⟨trivial,h⟩
 | .map g_,b,K,h=>by
  cases b with
  |map l=>cases l<;>simp only[AV.lq]at h;simp only[AV.le];exact⟨trivial,h⟩
  |any=>simp only[AV.lq]at h;simp only[AV.le];exact⟨trivial,h⟩
  |_=>simp only[AV.lq]at h
 | .map (z _),b,K,h=>by
  cases b with
  |map l=>
   cases l<;>simp only[AV.lq]at h
   simp only[AV.le];obtain⟨d,c⟩:=Zk h;exact⟨dE d,c⟩
  |any=>simp only[AV.lq]at h;simp only[AV.le];exact⟨trivial,h⟩
  |_=>simp only[AV.lq]at h
 | .fn _ x y,b,K,h=>by
  cases b<;>simp only[AV.lq]at h<;>simp only[AV.le]
  ·obtain⟨d,c⟩:=Zk h
   obtain⟨f,j⟩:=bt.eI x _ _ c
   obtain⟨m,o⟩:=bt.eI y _ _ j
   exact⟨⟨dE d,f,m⟩,o⟩
  ·exact⟨trivial,h⟩
 | .yield _,b,K,h=>by
  cases b<;>simp only[AV.lq]at h<;>simp only[AV.le]
  ·obtain⟨d,c⟩:=Zk h;exact⟨dE d,c⟩
  ·exact⟨trivial,h⟩
 | .aB,b,K,h=>by cases b<;>simp only[AV.lq]at h<;>simp only[AV.le]<;>simp_all
 | .nilIface,b,K,h=>by cases b<;>simp only[AV.lq]at h<;>simp only[AV.le]<;>simp_all
 | .iface _ x,b,K,h=>by
  cases b<;>simp only[AV.lq]at h<;>simp only[AV.le]
  ·obtain⟨d,c⟩:=Zk h
   obtain⟨f,j⟩:=AV.eI x _ _ c
   exact⟨⟨dE d,f⟩,j⟩
  ·exact⟨trivial,h⟩
 | .agg x,b,K,h=>by
  cases b<;>simp only[AV.lq]at h<;>simp only[AV.le]
  ·exact bt.eI x _ _ h
  ·exact⟨trivial,h⟩
 | .qP x,b,K,h=>by
  cases b<;>simp only[AV.lq]at h<;>simp only[AV.le]
  ·exact bt.eI x _ _ h
  ·exact⟨trivial,h⟩
 | .addr _ _,b,K,h=>by
  cases b<;>simp only[AV.lq]at h<;>simp only[AV.le]
  ·exact⟨trivial,h⟩
  ·obtain⟨d,c⟩:=ax.ok h;obtain⟨f,j⟩:=ax.ok c;exact⟨⟨d,f⟩,j⟩
 | .any,b,K,h=>by cases b<;>simp only[AV.lq]at h<;>simp only[AV.le]<;>simp_all
 | .fc x _,b,K,h=>by
  cases b<;>simp only[AV.lq]at h<;>simp only[AV.le]
  ·exact⟨trivial,h⟩
  ·obtain⟨d,c⟩:=Zk h
   obtain⟨f,j⟩:=bt.eI x _ _ c
   exact⟨⟨f,dE d⟩,j⟩
 | .ab _ _ _,b,K,h=>by
  cases b<;>simp only[AV.lq]at h<;>simp only[AV.le]
  ·exact⟨trivial,h⟩
  ·obtain⟨d,c⟩:=Zk h
   obtain⟨c,f,j⟩:=ax.ok c
   exact⟨⟨c,dE d,λi hi=>f i hi σ⟩,j⟩
def bt.eI{σ:Nat->Nat}:∀(a b:List AV)(K:Prop),bt.lq σ a b K->bt.le σ a b/\K
 |[],[],K,h=>⟨by simp only[bt.le],h⟩
 |a::as,b::q,K,h=>by
  simp only[bt.lq]at h
  obtain⟨d,c⟩:=AV.eI a _ _ h
  obtain⟨f,j⟩:=bt.eI as _ _ c
  exact⟨by simp only[bt.le];exact⟨d,f⟩,j⟩
 |[],_::_,K,h=>by simp only[bt.lq]at h
 |_::_,[],K,h=>by simp only[bt.lq]at h
end
def Tr.lq(σ:Nat->Nat):Tr AV->Tr AV->Prop->Prop
 |_,.e,K=>K
 | .e,.n l v r,K=>Tr.lq σ .e l (match v with|none=>Tr.lq σ .e r K|some a=>AV.lq σ .any a (Tr.lq σ .e r K))
 | .n l v r,.n d f c,K=>Tr.lq σ l d (match f with|none=>Tr.lq σ r c K|some b=>match v with|some a=>AV.lq σ a b (Tr.lq σ r c K)|none=>AV.lq σ .any b (Tr.lq σ r c K))
def Tr.eI{σ:Nat->Nat}:∀(t o:Tr AV)(K:Prop),Tr.lq σ t o K->Tr.le σ t o/\K
 | .e,.e,K,h=>⟨by simp only[Tr.le],by simpa only[Tr.lq]using h⟩
 | .n _ _ _,.e,K,h=>⟨by simp only[Tr.le],by simpa only[Tr.lq]using h⟩
 | .e,.n l v r,K,h=>by
  simp only[Tr.lq]at h
  obtain⟨f,i⟩:=Tr.eI _ _ _ h
  cases v with
  |none=>
   obtain⟨c,d⟩:=Tr.eI _ _ _ i
   exact⟨by simp only[Tr.le];exact⟨f,trivial,c⟩,d⟩
  |some a=>
   obtain⟨c,d⟩:=AV.eI _ _ _ i
   obtain⟨j,m⟩:=Tr.eI _ _ _ d
   exact⟨by simp only[Tr.le];exact⟨f,c,j⟩,m⟩
 | .n l v r,.n s q u,K,h=>by
  simp only[Tr.lq]at h
  obtain⟨f,i⟩:=Tr.eI _ _ _ h
  cases q with
  |none=>
   obtain⟨c,d⟩:=Tr.eI _ _ _ i
   refine⟨?_,d⟩
   simp only[Tr.le]
   exact⟨f,by cases v<;>trivial,c⟩
  |some b=>
   cases v with
   |none=>
    obtain⟨c,d⟩:=AV.eI _ _ _ i
    obtain⟨j,m⟩:=Tr.eI _ _ _ d
    exact⟨by simp only[Tr.le];exact⟨f,c,j⟩,m⟩
   |some a=>
    obtain⟨c,d⟩:=AV.eI _ _ _ i
    obtain⟨j,m⟩:=Tr.eI _ _ _ d
    exact⟨by simp only[Tr.le];exact⟨f,c,j⟩,m⟩
def Access.PE:Access->Access->Bool
 | .ro,.ro=>true
 | .wr,.wr=>true
 | .ty _,.wr=>true
 | .ty e,.ty a=>M e a
 | .ex m,.ex b=>M m b
 |_,_=>false
def Access.vX:∀{a b:Access},a.PE b=true->a.le b
 | .ro,.ro,_=>trivial
 | .wr,.wr,_=>trivial
 | .ty _,.wr,_=>trivial
 | .ty _,.ty _,h=>dE h
 | .ro,.wr,h=>zE
 | .ro,.ty _,h=>zE
 | .wr,.ro,h=>zE
 | .wr,.ty _,h=>zE
 | .ty _,.ro,h=>zE
 | .ex _,.ex _,h=>dE h
 | .ex _,.ro,h=>zE
 | .ex _,.wr,h=>zE
 | .ex _,.ty _,h=>zE
 | .ro,.ex _,h=>zE
 | .wr,.ex _,h=>zE
 | .ty _,.ex _,h=>zE
def U8(σ:Nat->Nat):List (AV×AV)->List (AV×AV)->Prop->Prop
 |[],[],K=>K
 |a::as,b::c,K=>AV.lq σ a.1 b.1 (AV.lq σ a.2 b.2 (U8 σ as c K))
 |_,_,_=>False
def K8{σ:Nat->Nat}:∀(a b:List (AV×AV))(K:Prop),U8 σ a b K->(bt.le σ (a.map (·.1)) (b.map (·.1))/\bt.le σ (a.map (·.2)) (b.map (·.2)))/\K
 |[],[],K,h=>⟨by simp[bt.le],h⟩
 |a::as,b::c,K,h=>by
  simp only[U8]at h
  obtain⟨d,e⟩:=AV.eI _ _ _ h
  obtain⟨f,g⟩:=AV.eI _ _ _ e
  obtain⟨⟨i,j⟩,k⟩:=K8 as c _ g
  exact⟨by simp only[List.map_cons,bt.le];exact⟨⟨d,i⟩,f,j⟩,k⟩
 |[],_::_,K,h=>by simp only[U8]at h
 |_::_,[],K,h=>by simp only[U8]at h
def aT(a b:Code):Prop:=a=b
def K9:LoopState->LoopState->Bool
 | .ready,.ready=>true
 | .busy,.busy=>true
 | .done,.done=>true
 |_,_=>false
def BH:∀{a b:LoopState},K9 a b=true->a=b
 | .ready,.ready,_=>rfl
 | .busy,.busy,_=>rfl
 | .done,.done,_=>rfl
 | .ready,.busy,h=>zE
 | .ready,.done,h=>zE
 | .busy,.ready,h=>zE
 | .busy,.done,h=>zE
 | .done,.ready,h=>zE
 | .done,.busy,h=>zE
def vY:List Nat->List Nat->Bool
 |[],[]=>true
 |a::as,b::c=>M a b&&vY as c
 |_,_=>false
def zk:∀{a b:List Nat},vY a b=true->a=b
 |[],[],_=>rfl
 |a::as,b::c,h=>by
  simp only[vY,bf]at h
  rw[dE h.1,zk h.2]
 |[],_::_,h=>zE
 |_::_,[],h=>zE
def Gs:Bool->Bool->Bool
 |true,true=>true
 |false,false=>true
 |_,_=>false
def Ee:∀{a b:Bool},Gs a b=true->a=b
 |true,true,_=>rfl
 |false,false,_=>rfl
def Ef(n:Nat)(f g:Nat->Int):Prop := ∀i,i<n->f i=g i
def Ef.same{n:Nat}{f:Nat->Int}:Ef n f f:=λ_ _=>rfl
def Tx(n:Nat)(f g:Nat->List Int)(P Q:Nat->AV):Prop := ∀i,i<n->f i=g i/\∀σ,AV.le σ (P i) (Q i)
def BI(σ:Nat->Nat):Option (Nat×AV)->Option (Nat×AV)->Prop->Prop
 |_,g_,K=>K
 |some (j,a),z (b,a'),K=>ax j b (AV.lq σ a a' K)
 |none,z _,_=>False
def La{σ:Nat->Nat}:∀(x y:Option (Nat×AV))(K:Prop),BI σ x y K->(∀j a',y=z (j,a')->∃a,x=z (j,a)/\AV.le σ a a')/\K
 |_,g_,K,h=>⟨(λ_ _ e=>zG),by simpa only[BI]using h⟩
 |some (j,a),z (f,a'),K,h=>by
  simp only[BI]at h
  obtain⟨rfl,b⟩:=ax.ok h
  obtain⟨c,d⟩:=AV.eI _ _ _ b
  exact⟨λ_ _ e=>by cases e;exact⟨a,rfl,c⟩,d⟩
 |none,z _,_,h=>by simp only[BI]at h
def eT.lq(σ:Nat->Nat):eT->eT->Prop->Prop
 |_,.dead,K=>K
 | .cells cs rw,.cells u a,K=>aa (rw.PE a) (bt.lq σ cs u K)
 | .rows n e f rw,.rows m F g a,K=>aa (rw.PE a&&M e F) (ax n m (an n f g/\K))
 | .cells cs rw,.rows n e g a,K=>aa (rw.PE a&&m_ 0 e) (ax cs.length (n*e) (an n (fW cs e) g/\K))
 | .str s rw,.str v a,K=>aa (rw.PE a) (bI s v K)
 | .rows n _ f rw,.cells cs a,K=>aa (rw.PE a) (bt.lq σ (rowsOf n f) cs K)
 | .map es,.map o,K=>aa (Gs (dL es) (dL o)) (U8 σ (gK es) (gK o) K)
 | .tE,.tE,K=>K
 | .iter l,.iter w,K=>aa (M l (σ w)) K
 | .iy n f,.iy m g,K=>ax n m (Ef n f g/\K)
 | .map es,.iy n _,K=>match es with|[]=>ax 0 n K|_::_=>False
 | .dX l s S,.dX w v G,K=>aa (M l (σ w)) (ax s v (S=G/\K))
 | .cT n f P foc,.cT m g Q q,K=>ax n m (Tx n f g P Q/\BI σ foc q K)
 | .map es,.cT n _ _ foc,K=>match es,foc with|[],g_=>ax 0 n K|_,_=>False
 | .loop y g_ t nt B as C df,.loop b g_ D c d h i j,K=>aa (K9 y b&&M nt c&&vY B d&&M df (σ j)) (aT as h/\aT C i/\Tr.lq σ t D K)
 | .loop y (z H) t nt B as C df,.loop b (z E) D c d h i j,K=>aa (K9 y b&&M nt c&&vY B d&&M df (σ j)) (aT H E/\aT as h/\aT C i/\Tr.lq σ t D K)
 |_,_,_=>False
def eT.eI{σ:Nat->Nat}(a b:eT)(K:Prop)(h:eT.lq σ a b K):a.le σ b/\K:=by
 unfold eT.lq at h
 split at h
 ·exact⟨by simp only[eT.le],h⟩
 ·obtain⟨c,d⟩:=Zk h
  obtain⟨f,j⟩:=bt.eI _ _ _ d
  exact⟨⟨f,Access.vX c⟩,j⟩
 ·obtain⟨c,d⟩:=Zk h
  obtain⟨d,f,j⟩:=ax.ok d
  simp only[bf]at c
  exact⟨⟨d,dE c.2,λi hi=>f i hi σ,Access.vX c.1⟩,j⟩
 ·obtain⟨c,d⟩:=Zk h
  obtain⟨d,f,j⟩:=ax.ok d
  simp only[bf,i_]at c
  exact⟨⟨d,λi hi=>f i hi σ,c.2,Access.vX c.1⟩,j⟩
 ·obtain⟨c,d,f⟩:=Zk h
  exact⟨⟨d,Access.vX c⟩,f⟩
 ·obtain⟨c,d⟩:=Zk h
  obtain⟨f,j⟩:=bt.eI _ _ _ d
  exact⟨⟨f,Access.vX c⟩,j⟩
 ·obtain⟨m,h⟩:=Zk h
  obtain⟨c,d⟩:=K8 _ _ _ h
  exact⟨⟨Ee m,c⟩,d⟩
 ·exact⟨trivial,h⟩
 ·obtain⟨c,d⟩:=Zk h
  exact⟨dE c,d⟩
 ·obtain⟨c,d,f⟩:=ax.ok h
  exact⟨⟨c,d⟩,f⟩
 ·split at h
  ·obtain⟨c,d⟩:=ax.ok h
   exact⟨⟨rfl,c.symm⟩,d⟩
  ·exact h.elim
 ·obtain⟨c,d⟩:=Zk h
  obtain⟨f,j,l⟩:=ax.ok d
  exact⟨⟨dE c,f,j⟩,l⟩
 ·obtain⟨c,d,f⟩:=ax.ok h
  obtain⟨j,l⟩:=La _ _ _ f
  exact⟨⟨c,λi hi=>(d i hi).1,λi hi=>(d i hi).2 σ,j⟩,l⟩
 ·split at h
  ·obtain⟨c,d⟩:=ax.ok h
   exact⟨⟨rfl,c.symm,rfl⟩,d⟩
  ·exact h.elim
 ·obtain⟨c,d,f,j⟩:=Zk h
  obtain⟨l,o⟩:=Tr.eI _ _ _ j
  simp only[bf]at c
  exact⟨⟨BH c.1.1.1,rfl,l,dE c.1.1.2,zk c.1.2,d,f,dE c.2⟩,o⟩
 ·obtain⟨c,m,d,f,j⟩:=Zk h
  obtain⟨l,o⟩:=Tr.eI _ _ _ j
  simp only[bf]at c
  exact⟨⟨BH c.1.1.1,congrArg z m,l,dE c.1.1.2,zk c.1.2,d,f,dE c.2⟩,o⟩
 ·exact h.elim
mutual
def AV.gj:AV->AV->List (Nat×Nat)->List (Nat×Nat)
 | .ptr l _ _ _,.ptr c _ _ _,K=>(c,l)::K
 | .slice l _ _ _ _ _,.slice c _ _ _ _ _,K=>(c,l)::K
 | .own l _ _,.own c _ _,K=>(c,l)::K
 | .map (z l),.map (z c),K=>(c,l)::K
 | .yield l,.yield c,K=>(c,l)::K
 | .fn _ a b,.fn _ a' d,K=>bt.gj a a' (bt.gj b d K)
 | .iface _ a,.iface _ a',K=>AV.gj a a' K
 | .agg a,.agg b,K=>bt.gj a b K
 | .qP a,.qP b,K=>bt.gj a b K
 |_,_,K=>K
def bt.gj:List AV->List AV->List (Nat×Nat)->List (Nat×Nat)
 |a::as,b::f,K=>AV.gj a b (bt.gj as f K)
 |_,_,K=>K
end
def Tr.gj:Tr AV->Tr AV->List (Nat×Nat)->List (Nat×Nat)
 | .n l v r,.n d f c,K=>Tr.gj l d (match v with|some a=>(match f with|some b=>AV.gj a b (Tr.gj r c K)|none=>Tr.gj r c K)|none=>Tr.gj r c K)
 |_,_,K=>K
def eT.gj:eT->eT->List (Nat×Nat)
 | .cells a _,.cells b _=>bt.gj a b []
 | .map a,.map b=>bt.gj (a.map (·.2)) (b.map (·.2)) []
 | .dX l _ _,.dX c _ _=>[(c,l)]
 | .cT _ _ _ (z a),.cT _ _ _ (z b)=>AV.gj a.2 b.2 []
 |_,_=>[]
def look(x:Nat):List (Nat×Nat)->Option Nat
 |[]=>g_
 |(a,b)::r=>bif M a x then z b else look x r
def Gt(n0:Nat)(H H':AH):Nat->List (Nat×Nat)->List (Nat×Nat)->List (Nat×Nat)
 |0,acc,_=>acc
 |_+1,acc,[]=>acc
 |d+1,acc,(a,b)::r=>bif m_ a n0 then Gt n0 H H' d acc r else match look a acc with
  |some _=>Gt n0 H H' d acc r
  |none=>Gt n0 H H' d ((a,b)::acc) ((H.get b).gj (H'.get a)++r)
def BJ(H H':AH):Nat->List (Nat×Nat)->List (Nat×Nat)
 |0,K=>K
 |n+1,K=>BJ H H' n ((H.get n).gj (H'.get n)++K)
def vZ(n0:Nat)(H H':AH)(a:List (Nat×Nat)):List Nat :=
 (d_ (H'.n-n0)).map λq=>match look (n0+q) (Gt n0 H H' 1000 [] (BJ H H' n0 a))with|some x=>x|none=>H.n+(n0+q)
def Lb:eT->Prop->Prop
 | .cells [] _,K=>K
 | .rows n _ _ _,K=>ax n 0 K
 | .str s _,K=>bI s [] K
 |_,_=>False
def Lc{b:eT}{K:Prop}(h:Lb b K):b.nothing/\K:=by
 unfold Lb at h
 split at h
 ·exact⟨rfl,h⟩
 ·exact ax.ok h
 ·exact h
 ·exact h.elim
def qD(σ:Nat->Nat)(N:Nat)(H H':AH):Nat->Prop->Prop
 |0,K=>K
 |n+1,K=>match H'.get n with
  | .dead=>qD σ N H H' n K
  |b=>match m_ (σ n) N with
   |true=>eT.lq σ (H.get (σ n)) b (qD σ N H H' n K)
   |false=>Lb b (qD σ N H H' n K)
def Eg(n0:Nat)(a:List Nat)(H H':AH)(K:Prop):Prop :=
 aa (M (n0+a.length) H'.n&&(a.all λx=>h_ n0 x||(H'.get x).Ab)&&sK a&&H'.PB&&h_ n0 H.n) (qD (sig n0 a H.n) H.n H H' H'.n K)
def yz{σ:Nat->Nat}{N:Nat}{H H':AH}:∀{n:Nat}{K:Prop},qD σ N H H' n K->(∀l,l<n->tO σ N l H (H'.get l))/\K
 |0,K,h=>⟨λl hl=>absurd hl (lZ _),h⟩
 |n+1,K,h=>by
  have key:tO σ N n H (H'.get n)/\qD σ N H H' n K:=by
   unfold qD at h
   split at h
   ·rename_i e
    rw[e];exact⟨trivial,h⟩
   ·rename_i c
    unfold tO
    split
    ·rename_i e;exact absurd e c
    ·split at h
     ·rename_i b
      obtain⟨d,f⟩:=eT.eI _ _ _ h
      rw[if_pos (by rwa[i_]at b)]
      exact⟨d,f⟩
     ·rename_i b
      rw[if_neg (by intro a;rw[<-i_]at a;rw[a]at b;cases b)]
      exact Lc h
  obtain⟨d,f⟩:=yz key.2
  refine⟨λl hl=>?_,f⟩
  by_cases e:l=n
  ·subst e;exact key.1
  ·exact d l O
def yA{n0:Nat}{a:List Nat}{H H':AH}{K:Prop}(h:Eg n0 a H H' K):im n0 a H H'/\K:=by
 obtain⟨b,c⟩:=Zk h
 obtain⟨d,e⟩:=yz c
 simp only[bf]at b
 obtain⟨⟨⟨⟨a1,a2⟩,f⟩,g⟩,i⟩:=b
 exact⟨im.of (dE a1) a2 f g i (gS.2 d),e⟩
def uQ:List Nat->List Nat->Bool
 |[],[]=>true
 |a::as,b::c=>M a b&&uQ as c
 |_,_=>false
def Xl:∀{a b:List Nat},uQ a b=true->a=b
 |[],[],_=>rfl
 |a::as,b::c,h=>by
  simp only[uQ,bf]at h
  rw[dE h.1,Xl h.2]
 |[],_::_,h=>zE
 |_::_,[],h=>zE
def mF(n0:Nat)(s a:St)(K:Prop):Prop :=
 Eg n0 (vZ n0 s.H a.H (Tr.gj s.t a.t [])) s.H a.H
  (aa (M s.nt a.nt&&uQ s.df (a.df.map (sig n0 (vZ n0 s.H a.H (Tr.gj s.t a.t [])) s.H.n)))
   (Tr.lq (sig n0 (vZ n0 s.H a.H (Tr.gj s.t a.t [])) s.H.n) s.t a.t K))
def mF.ok{n0:Nat}{s b:St}{K:Prop}(h:mF n0 s b K):St.Le n0 s b/\K:=by
 obtain⟨c,d⟩:=yA h
 obtain⟨a,f⟩:=Zk d
 obtain⟨i,j⟩:=Tr.eI _ _ _ f
 simp only[bf]at a
 exact⟨St.VA _ c (dE a.1) i (Xl a.2),j⟩
def qa(n0:Nat)(a:AV)(H:AH)(a':AV)(H':AH)(K:Prop):Prop :=
 Eg n0 (vZ n0 H H' (AV.gj a a' [])) H H' (AV.lq (sig n0 (vZ n0 H H' (AV.gj a a' [])) H.n) a a' K)
def qa.ok{n0:Nat}{a a':AV}{H H':AH}{K:Prop}(h:qa n0 a H a' H' K):ky n0 a H a' H'/\K:=by
 obtain⟨b,c⟩:=yA h
 obtain⟨d,f⟩:=AV.eI _ _ _ c
 exact⟨ky.of _ b d,f⟩
inductive GE where
 |one (e:aQ)
 |cond (b:Bool) (x a:GE)
def GE.pick:GE->aQ
 | .one e=>e
 | .cond b x y=>match b with|true=>x.pick|false=>y.pick
def aQ.run{R:Type}(k:KS R):aQ->R
 | .n s=>k.n s
 | .x i s=>k.x i s
 | .g i s=>k.g i s
 | .r s=>k.r s
 | .p a s=>k.p a s
def aQ.UF{R:Type}{sem:R->Prop}{k:KS R}{e:aQ}(h:sem (e.run k)):e.sem sem k:=by cases e<;>exact h
def GE.run(k:KS Prop):GE->Prop
 | .one e=>e.run k
 | .cond b x y=>ah b (x.run k) (y.run k)
def GE.UF{k:KS Prop}:∀{e:GE},e.run k->e.pick.sem id k
 | .one e,h=>aQ.UF (sem:=id) h
 | .cond b x y,h=>by
  cases b with
  |true=>exact GE.UF (e:=x) h
  |false=>exact GE.UF (e:=y) h
def iB(key:Nat):Code->Option Code
 | .seq a b=>match iB key a with|some c=>z c|none=>iB key b
 | .cond _ a b=>match iB key a with|some c=>z c|none=>iB key b
 | .block _ c=>iB key c
 | .scope c=>iB key c
 | .rangeFunc _ _ a b=>match iB key a with|some c=>z c|none=>iB key b
 | .loop c=>bif M (kM c) key then z c else iB key c
 |_=>g_
def aD(I:ba)(f:FuncId)(key:Nat):Code :=
 match I.body f with
 |some (c,_,_)=>match iB key c with|some c=>c|none=> .skip
 |none=> .skip
def ia:Code->Option (List Tmp×Code×Code)
 | .seq a b=>match ia a with|some c=>z c|none=>ia b
 | .cond _ a b=>match ia a with|some c=>z c|none=>ia b
 | .block _ c=>ia c
 | .scope c=>ia c
 | .rangeFunc _ d a b=>z (d.toList,a,b)
 | .loop c=>ia c
 |_=>g_
def bg(I:ba)(f:FuncId):Code :=
 match I.body f with
 |some (c,_,_)=>match ia c with|some (_,a,_)=>a|none=> .skip
 |none=> .skip
def bh(I:ba)(f:FuncId):Code :=
 match I.body f with
 |some (c,_,_)=>match ia c with|some (_,_,b)=>b|none=> .skip
 |none=> .skip
structure eu (P:Program) (I:ba) (ir:Bool) (c:Code) (n0:Nat) (s:St) (g:GE):Prop where
 h:∀s0,s0.H.n=n0->St.Le n0 s0 s->Dj P I ir (.code (.loop c)) s0 g.pick
abbrev lI:=List (Nat×Nat×St×GE)
def VC(k:Nat):lI->Option (Nat×St×GE)
 |[]=>g_
 |(a,b)::r=>bif M a k then z b else VC k r
def R5(k n:Nat):lI->Option (Nat×St×GE)
 |[]=>g_
 |(a,b)::r=>bif M a k&&M b.1 n then z b else R5 k n r
def R6(k n:Nat)(T:lI):Option (Nat×St×GE):=match R5 k n T with|some x=>z x|none=>VC k T
structure nJ (P:Program) (I:ba) (ir:Bool) (r c:Code) (n0:Nat) (s:St) (g:GE):Prop where
 h:∀s0,s0.H.n=n0->St.Le n0 s0 s->Dj P I ir (.inScope r c) s0 g.pick
def St.Il(s:St)(n:Nat):St:={s with H:={s.H with n:=n}}
def Dj.Il{P:Program}{I:ba}{ir:Bool}{t:Task}{s:St}{e:aQ}{n:Nat}(h:Dj P I ir t (s.Il n) e)(hn:s.H.n<=n):Dj P I ir t s e:=λro m c ρ a w d f b=>by
 have r:=b.heap
 refine h ro m c ρ a w d f ⟨b.tmp,?_,b.df⟩
 exact {r with top:=λl hl=>r.top l (r_ hn hl),env:=λl hl=>⟨j_ (r.env l hl).1 hn,(r.env l hl).2⟩,low:=λl hl=>r.low l (r_ hn hl)}
def mG(P:Program)(I:ba)(T:lI):gy Prop:=λir t s=>match t with
 | .code (.loop c)=>match R6 (kM c) s.H.n T with
  |none=>g_
  |some (n0,a,g)=>z λk=>eu P I ir c n0 a g/\aa (h_ s.H.n n0) (mF n0 (s.Il n0) a (g.run k))
 | .inScope r c=>match R6 (500000+kM r) s.H.n T with
  |none=>g_
  |some (n0,a,g)=>z λk=>nJ P I ir r c n0 a g/\aa (h_ s.H.n n0) (mF n0 (s.Il n0) a (g.run k))
 |_=>g_
def bm(P:Program)(I:ba)(T:lI):eR P I id (mG P I T):=by
 intro ir t s g h k f
 unfold mG at h
 split at h
 ·split at h
  ·cases h
  ·cases h
   obtain⟨b,a⟩:=f
   obtain⟨c,a⟩:=Zk a
   obtain⟨d,e⟩:=mF.ok a
   exact⟨_,GE.UF e,(b.h (s.Il _) A d).Il (jX c)⟩
 ·split at h
  ·cases h
  ·cases h
   obtain⟨b,a⟩:=f
   obtain⟨c,a⟩:=Zk a
   obtain⟨d,e⟩:=mF.ok a
   exact⟨_,GE.UF e,(b.h (s.Il _) A d).Il (jX c)⟩
 ·cases h
structure Next {ι:Type} (n0:Nat) (a:ι->Prop) (b:ι->St) (E:ι->GE) (μ:ι->Nat) (i:ι) (s:St):Prop where
 h:∃c,a c/\μ c<μ i/\St.Le n0 s (b c)/\(E c).pick=(E i).pick
def Eh(n0:Nat)(e:aQ)(g:aQ):Prop :=
 match e,g with
 | .n s,.n a=>mF n0 s a True
 | .x i s,.x j a=>aa (M i j) (mF n0 s a True)
 | .g i s,.g j a=>aa (M i j) (mF n0 s a True)
 | .r s,.r a=>mF n0 s a True
 |_,_=>False
def H5{n0:Nat}{e g:aQ}(h:Eh n0 e g):aQ.Le n0 e g:=by
 unfold Eh at h
 split at h
 ·exact h.ok.1
 ·obtain⟨a,b⟩:=Zk h;exact⟨dE a,b.ok.1⟩
 ·obtain⟨a,b⟩:=Zk h;exact⟨dE a,b.ok.1⟩
 ·exact h.ok.1
 ·exact h.elim
def GE.meets(n0:Nat)(e:aQ):GE->Prop
 | .one g=>Eh n0 e g
 | .cond b x y=>ah b (x.meets n0 e) (y.meets n0 e)
def GE.fg{n0:Nat}{e:aQ}:∀{g:GE},g.meets n0 e->aQ.Le n0 e g.pick
 | .one g,h=>H5 h
 | .cond b x y,h=>by
  cases b with
  |true=>exact GE.fg (g:=x) h
  |false=>exact GE.fg (g:=y) h
def tP{ι:Type}(n0:Nat)(S:ι->St)(E:ι->GE)(a:ι->ι)(Q:Prop)(i:ι):KS Prop :=
 {n:=λs=>mF n0 s (S (a i)) Q
  x:=λb s=>(E i).meets n0 (.x b s)
  g:=λb s=>(E i).meets n0 (.g b s)
  r:=λs=>(E i).meets n0 (.r s)
  p:=λ_ _=>False}
def eu.ZH{P:Program}{I:ba}(hI:I.Ok P){ι:Type}(ks:ι->List (aC P I)){u:ι->gy Prop}(m:∀i,eR P I id (u i))(fuel:Nat){c:Code}{ir:Bool}(n0:Nat)(J:ι->Prop)(S:ι->St)(E:ι->GE)(f:ι->Nat)(d:ι->ι)(o:ι)
  (q:h_ I.G n0=true) (v:J o)
  (j:∀i,J i->uA (ks i) (u i) fuel ir (.code c) (S i) (tP n0 S E d (J (d i)/\f (d i)<f i/\(E (d i)).pick=(E i).pick) i)):eu P I ir c n0 (S o) (E o) where
 h s0 t w:=by
  subst t
  refine qA (S:=S) (E:=λi=>(E i).pick) (J:=J) f (jX q) v w λi hi=>?_
  obtain⟨e,l,y⟩:=nH hI (ks i) (m i) fuel ir _ _ _ (j i hi)
  refine⟨e,y,?_⟩
  cases e with
  |n s=>
   obtain⟨k1,k2,B,C⟩:=mF.ok (K:=J (d i)/\f (d i)<f i/\(E (d i)).pick=(E i).pick) l
   exact⟨d i,k2,B,k1,C⟩
  |x b s=>exact GE.fg (g:=E i) l
  |g b s=>exact GE.fg (g:=E i) l
  |r s=>exact GE.fg (g:=E i) l
  |p a s=>exact(l:False).elim
def eu.of{P:Program}{I:ba}(hI:I.Ok P)(ks:List (aC P I)){l:gy Prop}(f:eR P I id l)(fuel:Nat){ι:Type}{c:Code}{ir:Bool}(n0:Nat)(J:ι->Prop)(S:ι->St)(E:ι->GE)(h:ι->Nat)(a:ι->ι)(d:ι)
  (j:h_ I.G n0=true) (m:J d)
  (b:∀i,J i->uA ks l fuel ir (.code c) (S i) (tP n0 S E a (J (a i)/\h (a i)<h i/\(E (a i)).pick=(E i).pick) i)):eu P I ir c n0 (S d) (E d):=
 eu.ZH hI (λ_=>ks) (λ_=>f) fuel n0 J S E h a d j m b
abbrev zyN(a:Nat)(K:Prop):Prop:=ax a a K
abbrev zyI(a:Int)(K:Prop):Prop:=aH a a K
abbrev zyB(a:List UInt8)(K:Prop):Prop:=bI a a K
abbrev zyR(n:Nat)(f:Nat->List AV)(K:Prop):Prop:=an n f f/\K
def AH.one(G:Nat)(b:eT):AH:={n:=G+1,t:=Tr.set .e G b}
def AH.iJ(G)(b)(l):(AH.one G b).get l=if l=G then b else .dead:=by
 simp only[AH.one,AH.get,Tr.bH,Tr.qV]
 grind
def af.VD{P I f args j a a' b d H l}(h:af P I f args (AH.one I.G b) (.ret a (AH.one I.G d)))(hG:I.G<=l)(hl:l<H.n)(J:H.get l=b)
  (K:∀σ,b.bD σ=b) (v:∀σ,d.bD σ=d) (y:∀σ,σ I.G=l->bt.bD σ args=j) (B:∀σ,σ I.G=l->a.bD σ=a') (C:b≠ .dead):af P I f j H (.ret a' (H.set l d)):=by
 intro c ρ w vs s D t
 let σ:Nat->Nat:=λi=>if i<I.G then i else if i=I.G then l else H.n+(i-(I.G+1))
 have o:σ I.G=l:=by simp[σ]
 have q:∀i,i<I.G->σ i=i:=λi hi=>Y
 have m:∀i,I.G+1<=i->σ i=H.n+(i-(I.G+1)):=λi hi=>by
  grind
 have E:Sub I.G σ (AH.one I.G b) H :=
  {lt:=λi hi=>by
    have hi:i<I.G+1:=hi
    grind
   ge:=λi hi=>m i hi
   same:=λi hi=>by
    rw[AH.iJ]at hi⊢
    grind
   inj:=Y
   fp:=λg u=>⟨Nat.lt_succ_of_lt u,q g u⟩
   low:=λi hi=>by
    have hi:I.G+1<=i:=hi
    rw[AH.iJ,if_neg O]}
 have ht:Eb σ (AH.one I.G b) (CO.ret a (AH.one I.G d)).heap H (H.set l d):=
  {n:=by show H.n=H.n+((I.G+1)-(I.G+1));omega
   old:=λi hi=>by
    show(H.set l d).get (σ i)=((AH.one I.G d).get i).bD σ
    rw[AH.iJ]at hi⊢
    by_cases e:i=I.G
    ·rw[if_pos e,e,o,f_,v]
    grind
   new:=λi hi=>by
    have hi:I.G+1<=i:=hi
    show(H.set l d).get (σ i)=((AH.one I.G d).get i).bD σ
    rw[AH.iJ,if_neg O,m i hi,y_ _ _ O,t.low _ O]
    rfl
   rest:=λi hi F=>by
    have:i≠l:=λe=>by
     have L:=F I.G (by rw[AH.iJ,if_pos A];exact C)
     omega
    exact y_ _ _ O}
 have:=h.lift E ht
 rw[y σ o]at this
 have e:(CO.ret a (AH.one I.G d)).iT σ (H.set l d)= .ret a' (H.set l d):=by
  show CO.ret (a.bD σ) (H.set l d)=_
  rw[B σ o]
 rw[e]at this
 exact this c ρ w vs s D t
end
end Go.Sx
