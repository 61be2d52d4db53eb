/- The proof of a statement of the seat, part 7. -/
import Derived.Test.YtoijalagmmgkbaaGreatDoorX06
set_option linter.all false
set_option linter.defProp false
set_option maxRecDepth 1000000
namespace Go.Sx
open Go
open _root_.Array renaming getD_eq_getD_getElem?->M,getElem?_eq_getElem->b_,getElem?_setIfInBounds->f_,getElem?_toList->g_,getElem?_push->i_,replicate->k_,getElem?_replicate->u_,ext'->E_
open Classical renaming byContradiction->z
open Option renaming some->a_,none->n_
open Nat renaming zero_add->c_,le_of_not_lt->d_,succ_mul->o_,ble->p_,lt_of_not_le->r_,beq->s_,blt->t_,blt_eq->v_,mul_le_mul_right->A_,lt_of_lt_of_le->C_,strongRecOn->D_,zero_mul->F_,add_zero->G_
open List renaming range->e_,getElem?_eq_none->l_,append_assoc->m_,mem_iff_getElem?->y_,take_append_drop->z_,map_congr_left->B_
open AH renaming blank->h_,get_set_same->j_
open AV renaming bD->q_
noncomputable section
mutual
def VR.gR{σ:Nat->Nat}{ρ:Env}:∀(a:AV)(v:Value),VR ρ (a.bD σ) v->VR (ρ.fC σ) a v
 | .bool _,_,k=>zD
 | .int _ _,_,k=>zD
 | .str _,_,k=>zD
 | .nilPtr,_,k=>zD
 | .ptr l _ _ _,v,k=>by simp only[VR,q_]at k⊢;exact k
 | .slice l _ _ _ _ _,v,k=>by simp only[VR,q_]at k⊢;exact k
 | .aw,_,k=>zD
 | .own l len e,v,k=>by simp only[VR,q_]at k⊢;exact k
 | .map n_,_,k=>zD
 | .map (a_ l),v,k=>by simp only[VR,q_]at k⊢;exact k
 | .fn f first d,v,k=>by
  simp only[VR,q_]at k⊢
  obtain⟨us,vs,e,r,s⟩:=k
  exact⟨us,vs,e,aU.gR first us r,aU.gR d vs s⟩
 | .yield l,v,k=>by simp only[VR,q_]at k⊢;exact k
 | .aB,_,k=>zD
 | .addr _ _,_,k=>zD
 | .nilIface,_,k=>zD
 | .iface t a,v,k=>by
  simp only[VR,q_]at k⊢
  obtain⟨u,e,r⟩:=k
  exact⟨u,e,VR.gR a u r⟩
 | .agg cs,v,k=>by
  simp only[VR,q_]at k⊢
  obtain⟨vs,e,r⟩:=k
  exact⟨vs,e,aU.gR cs vs r⟩
 | .bK cs,v,k=>by
  simp only[VR,q_]at k⊢
  obtain⟨vs,e,r⟩:=k
  exact⟨vs,e,aU.gR cs vs r⟩
 | .any,_,_=>zB
 | .fc _ _,v,k=>by
  simp only[VR,q_]at k⊢
  obtain⟨b,q,vs,h,i,j⟩:=k
  exact⟨b,q,vs,h,i,j⟩
 | .ab _ _ _,v,k=>by
  simp only[VR,q_]at k⊢
  rcases k with k|⟨b,q,c,a,m,h,i,j⟩
  ·exact .inl k
  ·exact .inr ⟨b,q,c,a,m,h,i,j⟩
def aU.gR{σ:Nat->Nat}{ρ:Env}:∀(as:List AV)(vs:List Value),aU ρ (bt.bD σ as) vs->aU (ρ.fC σ) as vs
 |[],_,k=>by simpa only[aU,bt.bD]using k
 |a::as,vs,k=>by
  simp only[aU,bt.bD]at k⊢
  obtain⟨u,us,e,r,s⟩:=k
  exact⟨u,us,e,VR.gR a u r,aU.gR as us s⟩
end
def aJ.gR{σ:Nat->Nat}{ρ:Env}{w:World}{o:Option (Nat×Nat)}{cs:List AV}{rw:Access}(k:aJ ρ w o (bt.bD σ cs) rw):aJ (ρ.fC σ) w o cs rw:=by
 rcases k with⟨h,k⟩|⟨b,N,vs,rest,el,fr,h1,a,c,d,f⟩
 ·cases cs with
  |nil=>exact .inl ⟨rfl,k⟩
  |cons=>simp[bt.bD]at h
 ·exact .inr ⟨b,N,vs,rest,el,fr,h1,a,c,aU.gR _ _ d,f⟩
def bp.gR{σ:Nat->Nat}{ρ:Env}{w:World}{o:Option (Nat×Nat)}{b:ai}(k:bp ρ w o (b.bD σ)):bp (ρ.fC σ) w o b:=by
 cases b with
 |cells cs rw=>exact aJ.gR k
 |rows n e f rw=>
  refine⟨λi hi=>by have:=k.1 i hi;simpa only[bt.l5,List.length_map]using this,?_⟩
  have E:bt.bD σ (rowsOf n f)=rowsOf n (λi=>bt.bD σ (f i)):=by
   simp only[bt.l5,rowsOf,List.map_flatMap]
  have:=k.2
  rw[<-E]at this
  exact aJ.gR this
 |str s rw=>refine aJ.gR (σ:=σ) (cs:=byteCells s) ?_;rw[pZ];exact k
 |map es=>
  obtain⟨b,N,ms,h,v,y,⟨C,m,q,D,F⟩,G⟩:=k
  rw[qv]at m q
  rw[qu]at D
  refine⟨b,N,ms,h,v,y,⟨C,aU.gR _ _ ?_,aU.gR _ _ ?_,D,F⟩,λe=>G (by rw[e];rfl)⟩
  ·simpa [bt.l5,Function.comp_def]using m
  ·simpa [bt.l5,Function.comp_def]using q
 |loop H I t nt J as L df=>
  obtain⟨b,N,d,c,fn,vs,v,y,m,q⟩:=k
  refine⟨b,N,d,c,fn,vs,v,y,⟨m.1,λi=>?_⟩,q⟩
  have:=m.2 i
  unfold cR at this⊢
  rw[Tr.get_map]at this
  cases ht:t.get i with
  |none=>simp[VR]
  |some a=>rw[ht]at this;exact VR.gR _ _ (by simpa using this)
 |tE=>exact k
 |iter l=>exact k
 |iy n K=>exact k
 |dX l since S=>exact k
 |cT n K Q foc=>
  obtain⟨b,N,u,v,y,m,q⟩:=k
  refine⟨b,N,u,v,y,λi hi=>VR.gR _ _ (m i hi),λj a e=>?_⟩
  subst e
  exact⟨(q _ _ A).1,VR.gR _ _ (q _ _ A).2⟩
 |dead=>trivial
structure Sub (a:Nat) (σ:Nat->Nat) (H0 H:AH):Prop where
 lt:∀l,l<H0.n->σ l<H.n
 ge:∀l,H0.n<=l->σ l=H.n+(l-H0.n)
 same:∀l,H0.get l≠ .dead->H.get (σ l)=(H0.get l).bD σ
 inj:∀l l',H0.get l≠ .dead->H0.get l'≠ .dead->σ l=σ l'->l=l'
 fp:∀g,g<a->g<H0.n/\σ g=g
 low:∀l,H0.n<=l->H0.get l= .dead
structure Eb (σ:Nat->Nat) (H0 H0' H H':AH):Prop where
 n:H'.n=H.n+(H0'.n-H0.n)
 old:∀l,H0.get l≠ .dead->H'.get (σ l)=(H0'.get l).bD σ
 new:∀l,H0.n<=l->H'.get (σ l)=(H0'.get l).bD σ
 rest:∀l,l<H.n->(∀k,H0.get k≠ .dead->σ k≠l)->H'.get l=H.get l
def fw.iT(c:fw)(ρ:Env)(H0 H:AH)(σ:Nat->Nat)(w:World):fw :=
 {w0:=w
  Z:=λk=>c.Z k∨∃l N,H.get l≠ .dead/\(H.get l).rw=false/\ρ l=a_ (k,N)
  G:=c.G
  X:=λk=>c.X k∨∃l N,(H.get l).rw=true/\(∀j,H0.get j≠ .dead->σ j≠l)/\ρ l=a_ (k,N)
  E:=λl=>l<H0.n
  DI:=ρ.fC σ}
def dj{b:ai}(h:b.rw=true):b≠ .dead:=λe=>by rw[e]at h;cases h
def Rel.iT{c:fw}{ρ:Env}{H0 H:AH}{σ:Nat->Nat}{w:World}(h:Rel c ρ H w)(s:Sub c.G σ H0 H):Rel (c.iT ρ H0 H σ w) (ρ.fC σ) H0 w:=by
 have f:∀l,H0.get l≠ .dead->H.get (σ l)≠ .dead:=λl b=>by
  rw[s.same l b];exactλe=>b (ai.KP.1 e)
 have u:∀l,H0.get l≠ .dead->(H.get (σ l)).rw=(H0.get l).rw:=λl b=>by rw[s.same l b,ai.qw]
 have old:∀k,c.Z k∨c.X k->k<w.heap.size:=λk i=>C_ (h.gH k i).1 h.size
 refine⟨λl=>?_,λl j r N o v a q m=>?_,λl r N a q y=>?_,λk i=>⟨?_,rfl⟩,dw _,rfl,rfl,rfl,λl hl=>?_,λg C=>?_,λl r N b q hx=>?_,λl hl=>⟨hl,rfl⟩,s.low,h.qY,λl r N a q=>?_,λk i=>?_,λ_ _ e=>e⟩
 ·by_cases b:H0.get l= .dead
  ·rw[b];trivial
  ·have:=h.dF (σ l)
   rw[s.same l b]at this
   exact bp.gR this
 ·apply z
  intro d
  have b:=dj a
  exact f j d (h.sep (σ l) (σ j) r N o (λe=>v (s.inj l j b d e)) Y q m)
 ·have b:=dj a
  have t:(H.get (σ l)).rw=true:=by rw[u l b];exact a
  rcases y with y|⟨j,o,d,D,m⟩
  ·exact h.gL _ r N t q y
  ·refine d (h.sep (σ l) j r N o (λe=>?_) t q m)
   grind
 ·rcases i with(i|⟨j,o,d,_,m⟩)|(i|⟨j,o,a,_,m⟩)
  ·exact old k (.inl i)
  ·exact h.lt d m
  ·exact old k (.inr i)
  ·exact h.lt (dj a) m
 ·show ρ (σ l)=n_
  exact h.top _ (by rw[s.ge l hl];omega)
 ·obtain⟨N,E⟩:=h.fp g C
  exact⟨N,by show ρ (σ g)=_;rw[(s.fp g C).2];exact E⟩
 ·rcases hx with hx|⟨j,o,a,F,m⟩
  ·exact h.hid _ r N (f l b) q hx
  ·exact f l b (h.sep j (σ l) r o N (λe=>F l b e.symm) a m q)
 ·exact h.pV (σ l) r N (by rw[u l (dj a)];exact a) q
 ·rcases i with i|⟨j,o,a,_,m⟩
  ·exact h.xw k i
  ·exact h.pV j k o a m
def Env.back(ρ ρ':Env)(n0 n:Nat):Env:=⟨λl=>if l<n then ρ l else ρ' (n0+(l-n)),ρ'.fz⟩
def Rel.KY{c:fw}{ρ ρ':Env}{H0 H j H':AH}{σ:Nat->Nat}{w w':World}(h:Rel c ρ H w)(s:Sub c.G σ H0 H)(d:Rel (c.iT ρ H0 H σ w) ρ' j w')(t:Eb σ H0 j H H'):
  Ext ρ (ρ.back ρ' H0.n H.n)/\(∀l,ρ.back ρ' H0.n H.n (σ l)=ρ' l)/\Rel c (ρ.back ρ' H0.n H.n) H' w':=by
 have I:H0.n<=j.n:=by
  refine d_ λQ=>?_
  have:=(d.env j.n Q).1
  omega
 have v:∀l,l<H.n->ρ.back ρ' H0.n H.n l=ρ l:=λl hl=>by simp[Env.back,hl]
 have C:∀l,ρ.back ρ' H0.n H.n (σ l)=ρ' l:=λl=>by
  by_cases hl:l<H0.n
  ·rw[v _ (s.lt l hl)]
   exact(d.env l hl).2.symm
  ·have:=s.ge l (d_ hl)
   simp only[Env.back,this]
   grind
 have hx:Ext ρ (ρ.back ρ' H0.n H.n):=by
  refine⟨λl x e=>?_,d.qZ⟩
  have:l<H.n:=r_ λI=>by rw[h.top l I]at e;cases e
  rw[v l this];exact e
 have bD:uy σ ρ' (ρ.back ρ' H0.n H.n):=⟨ZD,λ_ _ e=>e⟩
 have kind:∀l,(∃k,l=σ k/\H'.get l=(j.get k).bD σ)∨(l<H.n/\(∀k,H0.get k≠ .dead->σ k≠l)/\H'.get l=H.get l):=λl=>by
  by_cases hl:l<H.n
  ·by_cases f:∃k,H0.get k≠ .dead/\σ k=l
   ·obtain⟨k,f,rfl⟩:=f
    exact .inl ⟨k,rfl,t.old k f⟩
   ·have:∀k,H0.get k≠ .dead->σ k≠l:=by grind
    exact .inr ⟨hl,this,t.rest l hl this⟩
  ·have e:l=σ (H0.n+(l-H.n)):=by rw[s.ge _ O];omega
   refine .inl ⟨_,e,?_⟩
   rw[e]
   have:=t.new (H0.n+(l-H.n)) O
   grind
 have D:∀l r N,l<H.n->(∀k,H0.get k≠ .dead->σ k≠l)->H.get l≠ .dead->ρ l=a_ (r,N)->((H.get l).rw=false/\(c.iT ρ H0 H σ w).Z r)∨((H.get l).rw=true/\(c.iT ρ H0 H σ w).X r):=λl r N _ f u b=>by
  cases a:(H.get l).rw with
  |true=>exact .inr ⟨rfl,.inr ⟨l,N,a,f,b⟩⟩
  |false=>exact .inl ⟨rfl,.inr ⟨l,N,u,a,b⟩⟩
 have m:∀k,(j.get k).bD σ≠ .dead->j.get k≠ .dead:=λk u e=>u (by rw[e];rfl)
 refine⟨hx,C,λl=>?_,λl F r N P J a b o=>?_,λl r N a b q=>?_,λk f=>?_,Nat.le_trans h.size d.size,d.os.trans h.os,d.output.trans h.output,d.tape.trans h.tape,λl hl=>?_,λg R=>?_,λl r N u b q=>?_,λl hl=>?_,λl hl=>?_,d.qY,λl r N a b=>?_,λk f=>d.xw k (.inl f),λk vs e=>d.qZ k vs (h.qZ k vs e)⟩
 ·rcases kind l with⟨k,rfl,e⟩|⟨hl,f,e⟩
  ·rw[e,C];exact bp.bD bD (d.dF k)
  ·rw[e,v l hl]
   by_cases u:H.get l= .dead
   ·rw[u];trivial
   ·refine bp.world (λr N E=>?_) ((h.dF l).ext hx)
    exact(d.gH r Y).2
 ·apply z
  intro i
  rcases kind l with⟨k,rfl,e⟩|⟨hl,f,e⟩
  ·rw[e,ai.qw]at a
   rw[C]at b
   rcases kind F with⟨K,rfl,E⟩|⟨y,L,E⟩
   ·rw[E]at i
    rw[C]at o
    exact m K i (d.sep k K r N P (λe=>J (by rw[e])) a b o)
   ·rw[E]at i
    rw[v F y]at o
    rcases D F r P y L i o with⟨_,q⟩|⟨_,q⟩
    ·exact d.gL k r N a b q
    ·exact d.hid k r N (dj a) b q
  ·rw[e]at a
   rw[v l hl]at b
   rcases kind F with⟨K,rfl,E⟩|⟨y,L,E⟩
   ·rw[E]at i
    rw[C]at o
    rcases D l r N hl f (dj a) b with⟨T,_⟩|⟨_,q⟩
    grind
    ·exact d.hid K r P (m K i) o q
   ·rw[E]at i
    rw[v F y]at o
    exact i (h.sep l F r N P J a b o)
 ·rcases kind l with⟨k,rfl,e⟩|⟨hl,f,e⟩
  ·rw[e,ai.qw]at a
   rw[C]at b
   exact d.gL k r N a b (.inl q)
  ·rw[e]at a
   rw[v l hl]at b
   exact h.gL l r N a b q
 ·obtain⟨b,o⟩:=h.gH k f
  exact⟨b,((d.gH k (f.imp .inl .inl)).2).trans o⟩
 ·rw[t.n]at hl
  simp only[Env.back]
  rw[if_neg O]
  exact d.top _ O
 ·obtain⟨N,S⟩:=h.fp g R
  exact⟨N,hx _ _ S⟩
 ·rcases kind l with⟨k,rfl,e⟩|⟨hl,f,e⟩
  ·rw[e]at u
   rw[C]at b
   exact d.hid k r N (m k u) b (.inl q)
  ·rw[e]at u
   rw[v l hl]at b
   exact h.hid l r N u b q
 ·obtain⟨b,o⟩:=h.env l hl
  exact⟨by rw[t.n];omega,Y⟩
 ·rw[t.n]at hl
  have e:l=σ (H0.n+(l-H.n)):=by rw[s.ge _ O];omega
  have:=t.new (H0.n+(l-H.n)) O
  rw[<-e]at this
  rw[this,d.low _ O]
  rfl
 ·rcases kind l with⟨k,rfl,e⟩|⟨hl,f,e⟩
  ·rw[e,ai.qw]at a
   rw[C]at b
   exact d.pV k r N a b
  ·rw[e]at a
   rw[v l hl]at b
   exact d.xw r (.inr ⟨l,N,a,f,b⟩)
def CO.iT(σ:Nat->Nat)(H':AH):CO->CO
 | .ret a _=> .ret (a.bD σ) H'
 | .qt a _=> .qt (a.bD σ) H'
def CO.heap:CO->AH
 | .ret _ H=>H
 | .qt _ H=>H
def af.lift{P:Program}{I:ba}{f:FuncId}{args:List AV}{H0:AH}{o:CO}(h:af P I f args H0 o){σ:Nat->Nat}{H H':AH}(s:Sub I.G σ H0 H)(t:Eb σ H0 o.heap H H'):
  af P I f (bt.bD σ args) H (o.iT σ H'):=by
 intro c ρ w vs hG C j
 rw[<-hG]at s
 have l:=j.iT s
 have m:=aU.gR _ _ C
 have post:∀e w',o.post (c.iT ρ H0 H σ w) (ρ.fC σ) e w'->(o.iT σ H').post c ρ e w':=by
  intro e w' i
  cases o with
  |ret a H1=>
   cases e with
   |returned v=>
    obtain⟨ρ',hx,b,d⟩:=i
    obtain⟨k1,k2,q⟩:=j.KY s b t
    exact⟨_,k1,q,VR.bD (σ:=σ) (ρ:=ρ') (ρ':=ρ.back ρ' H0.n H.n) ⟨ZD,λ_ _ e=>e⟩ _ _ d⟩
   |panicked D=>exact i.elim
   |outgrown=>exact i.elim
  |qt a H1=>
   cases e with
   |returned v=>exact i.elim
   |panicked D=>
    obtain⟨ρ',u,rfl,hx,b,d⟩:=i
    obtain⟨k1,k2,q⟩:=j.KY s b t
    exact⟨_,u,rfl,k1,q,VR.bD (σ:=σ) (ρ:=ρ') (ρ':=ρ.back ρ' H0.n H.n) ⟨ZD,λ_ _ e=>e⟩ _ _ d⟩
   |outgrown=>exact i.elim
 rcases h (c.iT ρ H0 H σ w) (ρ.fC σ) w vs hG m l with⟨h1,y⟩|⟨v,w',h1,y⟩
 ·exact .inl ⟨h1,y.mono post⟩
 grind
mutual
def AV.le(σ:Nat->Nat):AV->AV->Prop
 |_,.any=>True
 | .bool a,.bool b=>a=b
 | .int k x,.int v y=>k=v/\x=y
 | .str s,.str t=>s=t
 | .ptr a b c d,.ptr a' h l m=>a=σ a'/\b=h/\c=l/\d=m
 | .nilPtr,.nilPtr=>True
 | .slice a b c d e f,.slice a' h l m o q=>a=σ a'/\b=h/\c=l/\d=m/\(∀x,o=a_ x->e=a_ x)/\f=q
 | .aw,.aw=>True
 | .aw,.own _ n _=>n=0
 | .aw,.ab n _ _=>n=0
 | .own a b c,.own a' h l=>a=σ a'/\b=h/\c=l
 | .map n_,.map n_=>True
 | .map (a_ a),.map (a_ b)=>a=σ b
 | .fn f a b,.fn q a' h=>f=q/\bt.le σ a a'/\bt.le σ b h
 | .yield a,.yield b=>a=σ b
 | .aB,.aB=>True
 | .nilIface,.nilIface=>True
 | .iface t a,.iface w a'=>t=w/\AV.le σ a a'
 | .agg a,.agg b=>bt.le σ a b
 | .bK a,.bK b=>bt.le σ a b
 | .fc cs j,.fc u C=>bt.le σ cs u/\j=C
 | .ab n e f,.ab D o g=>n=D/\e=o/\∀i,i<n->bt.le σ (f i) (g i)
 | .addr a b,.addr a' h=>a=a'/\b=h
 |_,_=>False
def bt.le(σ:Nat->Nat):List AV->List AV->Prop
 |[],[]=>True
 |a::as,b::E=>AV.le σ a b/\bt.le σ as E
 |_,_=>False
end
def Ext.fC{σ}{ρ:Env}:Ext ρ.bare (ρ.fC σ).bare:=⟨λ_ _ e=>zG,λ_ _ e=>e⟩
mutual
def VR.le{σ:Nat->Nat}{ρ:Env}:∀(a b:AV)(v:Value),AV.le σ a b->VR ρ a v->VR (ρ.fC σ) b v
 | .fn f x y,b,v,h,k=>by
  cases b<;>simp only[AV.le]at h
  ·obtain⟨rfl,d,w⟩:=h
   simp only[VR]at k⊢
   obtain⟨us,vs,e,r,s⟩:=k
   exact⟨us,vs,e,aU.le x _ us d r,aU.le y _ vs w s⟩
  ·simp only[VR]
 | .iface t x,b,v,h,k=>by
  cases b<;>simp only[AV.le]at h
  ·obtain⟨rfl,d⟩:=h
   simp only[VR]at k⊢
   obtain⟨u,e,r⟩:=k
   exact⟨u,e,VR.le x _ u d r⟩
  ·simp only[VR]
 | .agg cs,b,v,h,k=>by
  cases b<;>simp only[AV.le]at h
  ·simp only[VR]at k⊢
   obtain⟨vs,e,r⟩:=k
   exact⟨vs,e,aU.le cs _ vs h r⟩
  ·simp only[VR]
 | .bK cs,b,v,h,k=>by
  cases b<;>simp only[AV.le]at h
  ·simp only[VR]at k⊢
   obtain⟨vs,e,r⟩:=k
   exact⟨vs,e,aU.le cs _ vs h r⟩
  ·simp only[VR]
 | .fc cs j,b,v,h,k=>by
  cases b<;>simp only[AV.le]at h
  ·simp only[VR]
  ·obtain⟨d,rfl⟩:=h
   simp only[VR]at k⊢
   obtain⟨b,q,vs,e,r,s⟩:=k
   exact⟨b,q,vs,e,r.mono λ_ _ e=>e,aU.le cs _ vs d s⟩
 | .ab n e f,b,v,h,k=>by
  cases b<;>simp only[AV.le]at h
  ·simp only[VR]
  ·obtain⟨rfl,rfl,d⟩:=h
   simp only[VR]at k⊢
   rcases k with k|⟨b,q,c,a,m,e,r,s⟩
   ·exact .inl k
   ·exact .inr ⟨b,q,c,a,m,e,r,λhl=>⟨(s hl).1,(s hl).2.1.mono λ_ _ e=>e,λi hi=>⟨((s hl).2.2 i hi).1,aU.le (f i) _ _ (d i hi) ((s hl).2.2 i hi).2⟩⟩⟩
 | .bool _,b,v,h,k=>by
  cases b<;>simp only[AV.le]at h<;>first|(simp only[VR];done)|(simp only[VR]at k⊢;exact k)|(subst h;simp only[VR]at k⊢;exact k)|(obtain⟨rfl,rfl⟩:=h;simp only[VR]at k⊢;exact k)|(obtain⟨rfl,rfl,rfl,rfl⟩:=h;simp only[VR]at k⊢;exact k)
 | .int _ _,b,v,h,k=>by
  cases b<;>simp only[AV.le]at h<;>first|(simp only[VR];done)|(simp only[VR]at k⊢;exact k)|(subst h;simp only[VR]at k⊢;exact k)|(obtain⟨rfl,rfl⟩:=h;simp only[VR]at k⊢;exact k)|(obtain⟨rfl,rfl,rfl,rfl⟩:=h;simp only[VR]at k⊢;exact k)
 | .str _,b,v,h,k=>by
  cases b<;>simp only[AV.le]at h<;>first|(simp only[VR];done)|(simp only[VR]at k⊢;exact k)|(subst h;simp only[VR]at k⊢;exact k)|(obtain⟨rfl,rfl⟩:=h;simp only[VR]at k⊢;exact k)|(obtain⟨rfl,rfl,rfl,rfl⟩:=h;simp only[VR]at k⊢;exact k)
 | .nilPtr,b,v,h,k=>by
  cases b<;>simp only[AV.le]at h<;>first|(simp only[VR];done)|(simp only[VR]at k⊢;exact k)|(subst h;simp only[VR]at k⊢;exact k)|(obtain⟨rfl,rfl⟩:=h;simp only[VR]at k⊢;exact k)|(obtain⟨rfl,rfl,rfl,rfl⟩:=h;simp only[VR]at k⊢;exact k)
 | .addr _ _,b,v,h,k=>by
  cases b<;>simp only[AV.le]at h<;>first|(simp only[VR];done)|(obtain⟨rfl,rfl⟩:=h;simp only[VR]at k⊢;exact k)
 | .aB,b,v,h,k=>by
  cases b<;>simp only[AV.le]at h<;>first|(simp only[VR];done)|(simp only[VR]at k⊢;exact k)|(subst h;simp only[VR]at k⊢;exact k)|(obtain⟨rfl,rfl⟩:=h;simp only[VR]at k⊢;exact k)|(obtain⟨rfl,rfl,rfl,rfl⟩:=h;simp only[VR]at k⊢;exact k)
 | .nilIface,b,v,h,k=>by
  cases b<;>simp only[AV.le]at h<;>first|(simp only[VR];done)|(simp only[VR]at k⊢;exact k)|(subst h;simp only[VR]at k⊢;exact k)|(obtain⟨rfl,rfl⟩:=h;simp only[VR]at k⊢;exact k)|(obtain⟨rfl,rfl,rfl,rfl⟩:=h;simp only[VR]at k⊢;exact k)
 | .any,b,v,h,k=>by
  cases b<;>simp only[AV.le]at h<;>first|(simp only[VR];done)|(simp only[VR]at k⊢;exact k)|(subst h;simp only[VR]at k⊢;exact k)|(obtain⟨rfl,rfl⟩:=h;simp only[VR]at k⊢;exact k)|(obtain⟨rfl,rfl,rfl,rfl⟩:=h;simp only[VR]at k⊢;exact k)
 | .ptr _ _ _ _,b,v,h,k=>by
  cases b<;>simp only[AV.le]at h<;>first|(simp only[VR];done)|(simp only[VR]at k⊢;exact k)|(subst h;simp only[VR]at k⊢;exact k)|(obtain⟨rfl,rfl⟩:=h;simp only[VR]at k⊢;exact k)|(obtain⟨rfl,rfl,rfl,rfl⟩:=h;simp only[VR]at k⊢;exact k)
 | .yield _,b,v,h,k=>by
  cases b<;>simp only[AV.le]at h<;>first|(simp only[VR];done)|(simp only[VR]at k⊢;exact k)|(subst h;simp only[VR]at k⊢;exact k)|(obtain⟨rfl,rfl⟩:=h;simp only[VR]at k⊢;exact k)|(obtain⟨rfl,rfl,rfl,rfl⟩:=h;simp only[VR]at k⊢;exact k)
 | .aw,b,v,h,k=>by
  cases b<;>simp only[AV.le]at h<;>first|(simp only[VR];done)|(simp only[VR]at k⊢;exact k)|(subst h;simp only[VR]at k⊢;exact .inl ⟨trivial,k⟩)|(simp only[VR]at k⊢;exact .inl ⟨h,k⟩)
 | .own _ _ _,b,v,h,k=>by
  cases b<;>simp only[AV.le]at h<;>first|(simp only[VR];done)|(obtain⟨rfl,rfl,rfl⟩:=h;simp only[VR]at k⊢;exact k)
 | .map n_,b,v,h,k=>by
  cases b with
  |map l=>cases l<;>simp only[AV.le]at h;simp only[VR]at k⊢;exact k
  |any=>simp only[VR]
  |_=>simp only[AV.le]at h
 | .map (a_ _),b,v,h,k=>by
  cases b with
  |map l=>cases l<;>simp only[AV.le]at h;subst h;simp only[VR]at k⊢;exact k
  |any=>simp only[VR]
  |_=>simp only[AV.le]at h
 | .slice _ _ _ _ _ _,b,v,h,k=>by
  cases b<;>simp only[AV.le]at h
  ·obtain⟨rfl,rfl,rfl,rfl,C,rfl⟩:=h
   simp only[VR]at k⊢
   obtain⟨b,N,c,a,k1,k2,D,E,F⟩:=k
   exact⟨b,N,c,a,k1,k2,D,E,λx e=>F x (C x e)⟩
  ·simp only[VR]
def aU.le{σ:Nat->Nat}{ρ:Env}:∀(as o:List AV)(vs:List Value),bt.le σ as o->aU ρ as vs->aU (ρ.fC σ) o vs
 |[],[],_,_,k=>by simpa only[aU]using k
 |a::as,b::o,vs,h,k=>by
  simp only[bt.le]at h
  simp only[aU]at k⊢
  obtain⟨u,us,e,r,s⟩:=k
  exact⟨u,us,e,VR.le a _ u h.1 r,aU.le as _ us h.2 s⟩
 |[],_::_,_,h,_=>by simp[bt.le]at h
 |_::_,[],_,h,_=>by simp[bt.le]at h
end
def bt.sH{σ}:∀{as c},bt.le σ as c->as.length=c.length
 |[],[],_=>rfl
 |a::as,b::c,h=>by
  simp only[bt.le]at h
  simp[bt.sH h.2]
 |[],_::_,h=>by simp[bt.le]at h
 |_::_,[],h=>by simp[bt.le]at h
def bt.yx{σ}:∀{as c cs ds},bt.le σ as c->bt.le σ cs ds->bt.le σ (as++cs) (c++ds)
 |[],[],_,_,_,h=>h
 |a::as,b::c,cs,ds,h,k=>by
  simp only[bt.le]at h
  exact⟨h.1,bt.yx h.2 k⟩
 |[],_::_,_,_,h,_=>by simp[bt.le]at h
 |_::_,[],_,_,h,_=>by simp[bt.le]at h
def sI{σ f g}:∀{n},(∀i,i<n->bt.le σ (f i) (g i))->bt.le σ (rowsOf n f) (rowsOf n g)
 |0,_=>by simp[rowsOf,bt.le]
 |n+1,h=>by
  rw[dl,dl]
  exact bt.yx (sI λi hi=>h i O) (h n O)
def Tr.le(σ:Nat->Nat):Tr AV->Tr AV->Prop
 |_,.e=>True
 | .e,.n l v r=>Tr.le σ .e l/\(match v with|none=>True|some a=>AV.le σ .any a)/\Tr.le σ .e r
 | .n l v r,.n c d f=>Tr.le σ l c/\(match v,d with|_,n_=>True|some a,a_ b=>AV.le σ a b|none,a_ b=>AV.le σ .any b)/\Tr.le σ r f
def Tr.qz{σ}:∀{t d},Tr.le σ t d->∀i,AV.le σ (cR t i) (cR d i)
 |_,.e,_,i=>by simp[cR,Tr.qV,AV.le]
 | .e,.n l v r,h,i=>by
  simp only[Tr.le]at h
  have hl:=Tr.qz h.1
  have c:=Tr.qz h.2.2
  simp only[cR,Tr.get]at hl c⊢
  cases s_ i 0
  grind
  ·cases v with
   |none=>simp[AV.le]
   |some a=>exact h.2.1
 | .n l v r,.n j f m,h,i=>by
  simp only[Tr.le]at h
  have hl:=Tr.qz h.1
  have c:=Tr.qz h.2.2
  simp only[cR,Tr.get]at hl c⊢
  cases s_ i 0
  grind
  ·cases f with
   |none=>simp[AV.le]
   |some b=>grind
def Access.le:Access->Access->Prop
 | .ro,.ro=>True
 | .wr,.wr=>True
 | .ty _,.wr=>True
 | .ty e,.ty a=>e=a
 | .ex m,.ex b=>m=b
 |_,_=>False
def Access.HZ:∀{a b:Access},a.le b->a.w=b.w
 | .ro,.ro,_=>rfl
 | .wr,.wr,_=>rfl
 | .ty _,.wr,_=>rfl
 | .ty _,.ty _,_=>rfl
 | .ro,.wr,h=>h.elim
 | .ro,.ty _,h=>h.elim
 | .wr,.ro,h=>h.elim
 | .wr,.ty _,h=>h.elim
 | .ty _,.ro,h=>h.elim
 | .ex _,.ex _,_=>rfl
 | .ex _,.ro,h=>h.elim
 | .ex _,.wr,h=>h.elim
 | .ex _,.ty _,h=>h.elim
 | .ro,.ex _,h=>h.elim
 | .wr,.ex _,h=>h.elim
 | .ty _,.ex _,h=>h.elim
def pU.le{a b el fr N}(h:pU a el fr N)(k:a.le b):pU b el fr N :=
 ⟨λd=>h.w (by rw[Access.HZ k];exact d),λe c=>by
  subst c
  cases a with
  |ty f=>simp only[Access.le]at k;subst k;exact h.ty _ A
  |_=>exact k.elim,λm c=>by
  subst c
  cases a with
  |ex i=>simp only[Access.le]at k;subst k;exact h.ex _ A
  |_=>exact k.elim⟩
def ai.le(σ:Nat->Nat):ai->ai->Prop
 |_,.dead=>True
 | .cells cs rw,.cells m b=>bt.le σ cs m/\rw.le b
 | .rows n e f rw,.rows d F g b=>n=d/\e=F/\(∀i,i<n->bt.le σ (f i) (g i))/\rw.le b
 | .cells cs rw,.rows n e g b=>cs.length=n*e/\(∀i,i<n->bt.le σ ((cs.drop (i*e)).take e) (g i))/\0<e/\rw.le b
 | .str s rw,.str o b=>s=o/\rw.le b
 | .rows n _ f rw,.cells cs b=>bt.le σ (rowsOf n f) cs/\rw.le b
 | .map es,.map c=>dL es=dL c/\bt.le σ ((gK es).map (·.1)) ((gK c).map (·.1))/\bt.le σ ((gK es).map (·.2)) ((gK c).map (·.2))
 | .loop G H t nt I as J df,.loop q u L v w y C D=>G=q/\H=u/\Tr.le σ t L/\nt=v/\I=w/\as=y/\J=C/\df=σ D
 | .tE,.tE=>True
 | .iter l,.iter E=>l=σ E
 | .iy n K,.iy d N=>n=d/\∀i,i<n->K i=N i
 | .map es,.iy n _=>es=[]/\n=0
 | .dX l s S,.dX E o O=>l=σ E/\s=o/\S=O
 | .cT n f P foc,.cT d g Q h=>n=d/\(∀i,i<n->f i=g i)/\(∀i,i<n->AV.le σ (P i) (Q i))/\∀j a',h=a_ (j,a')->∃a,foc=a_ (j,a)/\AV.le σ a a'
 | .map es,.cT n _ _ foc=>es=[]/\n=0/\foc=n_
 |_,_=>False
def aJ.le{σ:Nat->Nat}{ρ:Env}{w:World}{o:Option (Nat×Nat)}{cs ds:List AV}{rw c:Access}(h:bt.le σ cs ds)(a:rw.le c)(k:aJ ρ w o cs rw):aJ (ρ.fC σ) w o ds c:=by
 rcases k with⟨rfl,k⟩|⟨b,N,vs,rest,el,fr,h1,f,i,j,d⟩
 ·cases ds with
  |nil=>exact .inl ⟨rfl,k⟩
  |cons=>simp[bt.le]at h
 ·exact .inr ⟨b,N,vs,rest,el,fr,h1,f,i,aU.le _ _ _ h j,d.1.le a,d.2.1,λe=>d.2.2 (by cases rw<;>first|rfl|(rw[e]at a;exact a.elim))⟩
def z8{σ}(s):bt.le σ (byteCells s) (byteCells s)=True:=by
 induction s with
 |nil=>rfl
 |cons a s b=>
  show bt.le σ (.int .u8 a.toNat::byteCells s) (.int .u8 a.toNat::byteCells s)=True
  simp only[bt.le,AV.le,b,and_self]
def bp.le{σ:Nat->Nat}{ρ:Env}{w:World}{o:Option (Nat×Nat)}{a b:ai}(h:a.le σ b)(k:bp ρ w o a):bp (ρ.fC σ) w o b:=by
 unfold ai.le at h
 split at h
 ·trivial
 ·exact aJ.le h.1 h.2 k
 ·obtain⟨rfl,rfl,h,s⟩:=h
  exact⟨λi hi=>by rw[<-bt.sH (h i hi)];exact k.1 i hi,aJ.le (sI h) s k.2⟩
 ·rename_i cs rw n e g H
  obtain⟨hl,h,I,s⟩:=h
  refine⟨λi hi=>?_,?_⟩
  ·have q:i*e+e<=n*e:=by
    have:=A_ e (O:i+1<=n)
    rw[o_]at this;exact this
   rw[<-bt.sH (h i hi)]
   grind
  ·have C:=iP (cs:=cs) (o:=0) I (n:=n) O
   simp only[c_,List.drop_zero]at C
   rw[<-hl,List.take_length]at C
   refine aJ.le (cs:=cs) ?_ s k
   rw[<-C]
   exact sI h
 ·obtain⟨rfl,s⟩:=h
  exact aJ.le (by rw[z8];trivial) s k
 ·exact aJ.le h.1 h.2 k.2
 ·rename_i E J
  obtain⟨b,N,ms,l,q,m,⟨D,t,v,y,L⟩,R⟩:=k
  refine⟨b,N,ms,l,q,m,⟨D,aU.le _ _ _ h.2.1 t,aU.le _ _ _ h.2.2 v,by rw[<-h.1];exact y,L⟩,λe=>R ?_⟩
  subst e
  have S:dL E=false:=h.1
  have F:=h.2.1
  rw[oY S]at F
  cases E with
  |nil=>rfl
  |cons x xs=>exact F.elim
 ·obtain⟨rfl,rfl,h,rfl,rfl,rfl,rfl,rfl⟩:=h
  obtain⟨b,N,d,c,fn,vs,q,m,t,v⟩:=k
  exact⟨b,N,d,c,fn,vs,q,m,⟨t.1,λi=>VR.le _ _ _ (Tr.qz h i) (t.2 i)⟩,v⟩
 ·exact k
 ·subst h;exact k
 ·obtain⟨rfl,h⟩:=h
  rename_i n K T
  have e:dM n T=dM n K:=by
   unfold dM
   exact B_ λi hi=>by rw[h i (List.mem_range.1 hi)]
  obtain⟨b,N,q,m⟩:=k
  exact⟨b,N,q,by rw[e];exact m⟩
 ·obtain⟨rfl,rfl⟩:=h
  obtain⟨b,N,ms,l,q,m,t,v⟩:=k
  obtain⟨y,_⟩:=t.plain rfl
  have e:ms=[]:=by
   cases ms with
   |nil=>rfl
   |cons x xs=>simp[aU]at y
  subst e
  rw[v A]at m
  exact⟨b,N,q,m⟩
 ·obtain⟨rfl,rfl,rfl⟩:=h
  exact k
 ·obtain⟨rfl,q,m,t⟩:=h
  rename_i n f P foc g Q G
  obtain⟨b,N,u,g1,g2,g3,g4⟩:=k
  have e:bT n g u=bT n f u:=by
   unfold bT
   exact B_ λi hi=>by rw[q i (List.mem_range.1 hi)]
  refine⟨b,N,u,g1,by rw[e];exact g2,λi hi=>VR.le _ _ _ (m i hi) (g3 i hi),λj a' ha=>?_⟩
  obtain⟨a,v,y⟩:=t j a' ha
  exact⟨(g4 j a v).1,VR.le _ _ _ y (g4 j a v).2⟩
 ·obtain⟨rfl,rfl,rfl⟩:=h
  obtain⟨b,N,ms,l,q,m,t,v⟩:=k
  obtain⟨y,_⟩:=t.plain rfl
  have e:ms=[]:=by
   cases ms with
   |nil=>rfl
   |cons x xs=>simp[aU]at y
  subst e
  rw[v A]at m
  exact⟨b,N,λ_=> .nilFunc,q,m,λ_ hi=>absurd hi (lZ _),λ_ _ e=>zG⟩
 ·exact h.elim
def ai.KZ{σ}{a b:ai}(h:a.le σ b)(c:b≠ .dead):a.rw=b.rw:=by
 unfold ai.le at h
 split at h
 grind
 ·exact Access.HZ h.2
 ·exact Access.HZ h.2.2.2
 ·exact Access.HZ h.2.2.2
 ·exact Access.HZ h.2
 ·exact Access.HZ h.2
 ·exact congrArg (λb=>!b) h.1
 ·rfl
 ·rfl
 ·rfl
 ·rfl
 ·obtain⟨rfl,_⟩:=h;rfl
 ·rfl
 ·rfl
 ·obtain⟨rfl,_⟩:=h;rfl
 ·exact h.elim
def ai.Gp{σ}{a b:ai}(h:a.le σ b)(c:b≠ .dead):a≠ .dead:=by
 rintro rfl
 unfold ai.le at h
 grind
def ai.nothing:ai->Prop
 | .cells cs _=>cs=[]
 | .rows n _ _ _=>n=0
 | .str s _=>s=[]
 |_=>False
def bp.Ec{ρ w b}(h:b.nothing):bp ρ w n_ b:=by
 cases b with
 |cells cs a=>simp only[ai.nothing]at h;subst h;exact .inl ⟨rfl,rfl⟩
 |rows n e f a=>simp only[ai.nothing]at h;subst h;exact⟨O,.inl ⟨by simp[rowsOf],rfl⟩⟩
 |str s a=>simp only[ai.nothing]at h;subst h;exact .inl ⟨rfl,rfl⟩
 |_=>exact h.elim
structure AH.Le (n0:Nat) (σ:Nat->Nat) (H H':AH):Prop where
 n:n0<=H'.n
 id:∀l,l<n0->σ l=l
 ge:∀l,H'.n<=l->H.n<=σ l
 dF:∀l,H'.get l= .dead∨(H.get (σ l)).le σ (H'.get l)∨(H.n<=σ l/\(H'.get l).nothing)
 inj:∀l l',H'.get l≠ .dead->H'.get l'≠ .dead->σ l=σ l'->σ l<H.n->l=l'
 low:∀l,H'.n<=l->H'.get l= .dead
def Rel.view{c:fw}{ρ:Env}{n0:Nat}{σ:Nat->Nat}{H H':AH}{w:World}(h:Rel c ρ H w)(s:AH.Le n0 σ H H')(hG:c.G<=n0)(v:∀l,c.E l->l<n0):Rel c (ρ.fC σ) H' w:=by
 have lt:∀l r N,ρ (σ l)=a_ (r,N)->σ l<H.n:=λl r N e=>r_ λm=>by rw[h.top _ m]at e;cases e
 have b:∀l r N,H'.get l≠ .dead->ρ (σ l)=a_ (r,N)->(H.get (σ l)).le σ (H'.get l):=λl r N o d=>by
  have:=lt l r N d
  rcases s.dF l with k|k|k
  all_goals grind
 refine⟨λl=>?_,λl q r N u t a d j=>?_,λl r N a d=>?_,h.gH,h.size,h.os,h.output,h.tape,λl hl=>h.top _ (s.ge l hl),λg y=>?_,λl r N o d=>?_,λl hl=>?_,s.low,h.qY,λl r N a d=>?_,h.xw,h.qZ⟩
 ·rcases s.dF l with k|k|⟨k1,k2⟩
  ·rw[k];trivial
  ·exact bp.le k (h.dF _)
  ·show bp _ _ (ρ (σ l)) _
   rw[h.top _ k1];exact bp.Ec k2
 ·apply z
  intro f
  have k:=b l r N (dj a) d
  have C:=b q r u f j
  refine ai.Gp C f (h.sep (σ l) (σ q) r N u (λe=>t (s.inj l q (dj a) f e (lt l r N d))) ?_ d j)
  rw[ai.KZ k (dj a)];exact a
 ·have k:=b l r N (dj a) d
  exact h.gL _ r N (by rw[ai.KZ k (dj a)];exact a) d
 ·obtain⟨N,D⟩:=h.fp g y
  exact⟨N,by show ρ (σ g)=_;rw[s.id g O];exact D⟩
 ·exact h.hid _ r N (ai.Gp (b l r N o d) o) d
 ·have i:=v l hl
  obtain⟨_,j⟩:=h.env l hl
  exact⟨C_ i s.n,by show ρ (σ l)=_;rw[s.id l i];exact j⟩
 ·have k:=b l r N (dj a) d
  exact h.pV _ r N (by rw[ai.KZ k (dj a)];exact a) d
structure iU (n0:Nat) (ρ ρ':Env):Prop where
 Pa:∀l,l<n0->∀x,ρ l=a_ x->ρ' l=a_ x
 fz:∀b vs,ρ.fz b=a_ vs->ρ'.fz b=a_ vs
instance {n0:Nat}{ρ ρ':Env}:CoeFun (iU n0 ρ ρ') (λ_=> ∀l,l<n0->∀x,ρ l=a_ x->ρ' l=a_ x):=⟨iU.Pa⟩
def iU.trans{n0 a b c}(h:iU n0 a b)(k:iU n0 b c):iU n0 a c:=⟨λl hl x e=>k l hl x (h l hl x e),λb vs e=>k.fz b vs (h.fz b vs e)⟩
def iU.of{n0 a b}(h:Ext a b):iU n0 a b:=⟨λl _ x e=>h l x e,h.fz⟩
def AH.Le.ext{n0 σ H H'}(s:AH.Le n0 σ H H')(ρ):iU n0 ρ (ρ.fC σ):=⟨λl hl x e=>by show ρ (σ l)=_;rw[s.id l hl];exact e,λ_ _ e=>e⟩
def iU.ext{c ρ ρ' H w}(h:iU H.n ρ ρ')(b:Rel c ρ H w):Ext ρ ρ':=⟨λl x e=>h l (r_ λa=>by rw[b.top l a]at e;cases e) x e,h.fz⟩
structure St.Le (n0:Nat) (s s':St):Prop where
 le:∃σ,AH.Le n0 σ s.H s'.H/\s.nt=s'.nt/\Tr.le σ s.t s'.t/\s.df=s'.df.map σ
def Gh.view{ρ σ}:∀{a ds},Gh ρ (a.map σ) ds->Gh (ρ.fC σ) a ds
 |[],_,h=>h
 |_::_,_,⟨b,N,rest,h1,c,d⟩=>⟨b,N,rest,h1,c,Gh.view d⟩
def cA.view{c ρ n0 s b a w}(h:cA c ρ s a w)(k:St.Le n0 s b)(hG:c.G<=n0)(d:∀l,c.E l->l<n0):∃ρ',iU n0 ρ ρ'/\cA c ρ' b a w:=by
 obtain⟨σ,k1,k2,f,j⟩:=k.le
 refine⟨_,k1.ext ρ,⟨h.tmp.1.trans k2,λi=>VR.le _ _ _ (Tr.qz f i) (h.tmp.2 i)⟩,h.heap.view k1 hG d,?_⟩
 have:=h.df
 rw[j]at this
 exact this.view
def aQ.Le(n0:Nat):aQ->aQ->Prop
 | .n s,.n a=>St.Le n0 s a
 | .x i s,.x j a=>i=j/\St.Le n0 s a
 | .g i s,.g j a=>i=j/\St.Le n0 s a
 | .r s,.r a=>St.Le n0 s a
 |_,_=>False
def aQ.kx(n0:Nat)(e:aQ)(c:fw)(ρ:Env)(x:Exit)(a:Act)(w:World):Prop :=
 match e,x with
 | .n s,.normal=> ∃ρ',iU n0 ρ ρ'/\cA c ρ' s a w
 | .x i s,.exit j=>i=j/\∃ρ',iU n0 ρ ρ'/\cA c ρ' s a w
 | .g l s,.goto m=>l=m/\∃ρ',iU n0 ρ ρ'/\cA c ρ' s a w
 | .r s,.ret=> ∃ρ',iU n0 ρ ρ'/\cA c ρ' s a w
 | .p v s,.panic b=> ∃ρ' u,b=[{v:=u,recovered:=false}]/\iU n0 ρ ρ'/\cA c ρ' s a w/\VR ρ' v u
 |_,_=>False
def aQ.ji{n0:Nat}{e:aQ}{c:fw}{ρ:Env}{x:Exit}{a:Act}{w:World}(h:e.post c ρ x a w):e.kx n0 c ρ x a w:=by
 cases e<;>cases x<;>simp only[aQ.post,aQ.kx]at h⊢
 ·obtain⟨ρ',b,d⟩:=h;exact⟨ρ',.of b,d⟩
 ·obtain⟨f,ρ',b,d⟩:=h;exact⟨f,ρ',.of b,d⟩
 ·obtain⟨f,ρ',b,d⟩:=h;exact⟨f,ρ',.of b,d⟩
 ·obtain⟨ρ',b,d⟩:=h;exact⟨ρ',.of b,d⟩
 ·obtain⟨ρ',u,f,b,d⟩:=h;exact⟨ρ',u,f,.of b,d⟩
def aQ.ja{n0:Nat}{e:aQ}{c:fw}{ρ f:Env}{x:Exit}{a:Act}{w:World}(hx:iU n0 ρ f)(h:e.kx n0 c f x a w):e.kx n0 c ρ x a w:=by
 cases e<;>cases x<;>simp only[aQ.kx]at h⊢
 ·obtain⟨ρ',b,d⟩:=h;exact⟨ρ',hx.trans b,d⟩
 ·obtain⟨i,ρ',b,d⟩:=h;exact⟨i,ρ',hx.trans b,d⟩
 ·obtain⟨i,ρ',b,d⟩:=h;exact⟨i,ρ',hx.trans b,d⟩
 ·obtain⟨ρ',b,d⟩:=h;exact⟨ρ',hx.trans b,d⟩
 ·obtain⟨ρ',u,i,b,d⟩:=h;exact⟨ρ',u,i,hx.trans b,d⟩
def aQ.nG{n0:Nat}{e:aQ}{c:fw}{ρ:Env}{H:AH}{w0:World}(f:Rel c ρ H w0)(hn:n0=H.n){x:Exit}{a:Act}{w:World}(h:e.kx n0 c ρ x a w):e.post c ρ x a w:=by
 subst hn
 cases e<;>cases x<;>simp only[aQ.post,aQ.kx]at h⊢
 ·obtain⟨ρ',b,d⟩:=h;exact⟨ρ',b.ext f,d⟩
 ·obtain⟨i,ρ',b,d⟩:=h;exact⟨i,ρ',b.ext f,d⟩
 ·obtain⟨i,ρ',b,d⟩:=h;exact⟨i,ρ',b.ext f,d⟩
 ·obtain⟨ρ',b,d⟩:=h;exact⟨ρ',b.ext f,d⟩
 ·obtain⟨ρ',u,i,b,d⟩:=h;exact⟨ρ',u,i,b.ext f,d⟩
def aQ.jk{n0 e o}(k:aQ.Le n0 e o){c}(hG:c.G<=n0)(m:∀l,c.E l->l<n0){ρ x a w}(h:e.kx n0 c ρ x a w):o.kx n0 c ρ x a w:=by
 cases e<;>cases o<;>cases x<;>simp only[aQ.Le,aQ.kx]at k h⊢
 ·obtain⟨ρ',d,f⟩:=h
  obtain⟨b,i,j⟩:=f.view k hG m
  exact⟨b,d.trans i,j⟩
 ·obtain⟨q,ρ',d,f⟩:=h
  obtain⟨b,i,j⟩:=f.view k.2 hG m
  exact⟨k.1.symm.trans q,b,d.trans i,j⟩
 ·obtain⟨q,ρ',d,f⟩:=h
  obtain⟨b,i,j⟩:=f.view k.2 hG m
  exact⟨k.1.symm.trans q,b,d.trans i,j⟩
 ·obtain⟨ρ',d,f⟩:=h
  obtain⟨b,i,j⟩:=f.view k hG m
  exact⟨b,d.trans i,j⟩
def Round{ι:Type}(n0:Nat)(J:ι->Prop)(S:ι->St)(E:ι->aQ)(a:ι->Nat)(i:ι):aQ->Prop
 | .n s=> ∃j,J j/\a j<a i/\St.Le n0 s (S j)/\E j=E i
 |e=>aQ.Le n0 e (E i)
def BG{P:Program}{I:ba}{ι:Type}{n0:Nat}{J:ι->Prop}{S:ι->St}{E:ι->aQ}{K:ι->Nat}{c:Code}{ir:Bool}(u:I.G<=n0)
  (h:∀i,J i->∃e,ew P I ir (.code c) (S i) e/\Round n0 J S E K i e):
  ∀m i,J i->K i<m->∀t,t= .inLoop c∨t= .code (.loop c)->∀ro n d ρ a w,(ir=false->ro=n_)->d.G=I.G->(∀l,d.E l->l<n0)->cA d ρ (S i) a w->fG (WF ro) n P t ((E i).kx n0 d ρ) a w:=by
 intro m
 induction m with
 |zero=>omega
 |succ m L=>
  intro i N hi t ht ro n d ρ a w k hG o Q
  obtain⟨e,R,q⟩:=h i N
  refine mB t ht ?_
  have T:c.wpIn (WF ro) n P (e.post d ρ) a w:=R ro n d ρ a w k hG Q
  refine wpIn_mono T λx a1 U b=>?_
  have f:d.G<=n0:=by rw[hG];exact u
  cases e with
  |n s=>
   cases x with
   |normal=>
    obtain⟨V,hx,y⟩:=b
    obtain⟨j,C,Y,D,F⟩:=q
    obtain⟨H,W,X⟩:=y.view D f o
    have:=L j C O (.inLoop c) (.inl A) ro n d H a1 U k hG o X
    rw[F]at this
    exact this.mono λx a w b=>aQ.ja ((iU.of hx).trans W) b
   |_=>exact b.elim
  |x i s=>
   cases x with
   |exit id=>exact aQ.jk q f o (aQ.ji b)
   |_=>exact b.elim
  |g i s=>
   cases x with
   |goto id=>exact aQ.jk q f o (aQ.ji b)
   |_=>exact b.elim
  |r s=>
   cases x with
   |ret=>exact aQ.jk q f o (aQ.ji b)
   |_=>exact b.elim
  |p v s=>simp only[Round,aQ.Le]at q
def qA{P I ι s J S E}(j){c ir}{i:ι}(b:I.G<=s.H.n)(o:J i)(start:St.Le s.H.n s (S i))
  (d:∀i,J i->∃e,ew P I ir (.code c) (S i) e/\Round s.H.n J S E j i e):ew P I ir (.code (.loop c)) s (E i):=by
 intro ro n k ρ a w f hG g
 have m:∀l,k.E l->l<s.H.n:=λl hl=>(g.heap.env l hl).1
 obtain⟨h,p,q⟩:=g.view start (by rw[hG];exact b) m
 have:=BG b d (j i+1) i o (Nat.lt_succ_self _) _ (.inr A) ro n k h a w f hG m q
 exact this.mono λx a w r=>aQ.nG g.heap A (aQ.ja p r)
section
theorem Oper.qB{F:Fence}{n:Nat}{P:Program}{o:Oper}{a:Act}{w:World}{K:Act->World->Prop}{Q c:Exit->Act->World->Prop}(h:∀x a w,x≠ .normal->Q x a w->c x a w)
  (b:o.wpIn F n P a w K Q):o.wpIn F n P a w K c:=by
 unfold Oper.wpIn at*
 refine⟨b.1,?_⟩
 have b:=b.2
 have out:LetsOut Q->LetsOut c:=λ⟨a,w,e⟩=>⟨a,w,h _ _ _ zA e⟩
 generalize (o.semAt F.round a.eval).run P w=r at*
 cases r with
 |ok x w'=>
  cases x<;>simp only[Oper.uponIn]at b⊢ <;>
   first
    |exact b
    |exact⟨b.1,CallsIn.mono b.2 Y⟩
    |exact⟨b.1,RoundIn.mono b.2 Y⟩
 |halt x w'=>cases x<;>simp only[Oper.uponIn]at b⊢ <;>first|grind|exact b
section
variable {P:Program} {I:ba} {ops:Array Oper} {o:Oper}
theorem Gq(a:ops.back? =a_ o):ops.size=ops.pop.size+1/\ops[ops.pop.size]? =a_ o/\∀i,i<ops.pop.size->ops.pop[i]? =ops[i]? :=by
 grind
theorem K0{ro:Option Nat}{n:Nat}{Q1 Q:Exit->Act->World->Prop}(g:ops.back? =a_ o)(hplan:gP I ops (bz ops)=true)(u:gP I ops.pop (bz ops.pop)=true)
  (K:∀i,i<ops.pop.size->(bz ops).pre i ops.pop.size=true) (hg:∀d∈ops.pop.toList,∀j b,d.guard=a_ (j,b)->j<ops.pop.size)
  (hQ:∀x a w,x≠ .normal->Q1 x a w->Q x a w) (hN:∀a w,Q1 .normal a w->wpOpIn (WF ro) n P ops Q ops.pop.size (λa w=>Q .normal a w) a w):
  ∀(fuel:Nat)(listed:Array Bool)(a:Act)(w:World),listed.size=ops.pop.size->
   (∀j d,ops.pop[j]? =a_ d->dH listed j->∀e∈d.after,Region.binds .any e=true->dH listed e.on)->
   wpAnyIn (WF ro) n P .any ops.pop Q1 fuel listed a w->wpAnyIn (WF ro) n P .any ops Q (fuel+1) (listed.push false) a w:=by
 obtain⟨ap,p,r⟩:=Gq g
 have f:∀(listed:Array Bool)(b:Bool) i,i<listed.size->(dH (listed.push b) i↔dH listed i):=λlisted b i hi=>by
  unfold dH
  rw[M,M,i_,if_neg O]
 have uz:∀j d,ops[j]? =a_ d->∀e∈d.after,Region.binds .any e=true->e.on<j:=λj d k e l g=>iZ hplan k l g
 have E:∀(listed:Array Bool) i,listed.size=ops.pop.size->i<ops.pop.size->(i∈Region.ready .any ops (listed.push false)↔i∈Region.ready .any ops.pop listed):=by
  intro listed i c hi
  rw[mem_ready,mem_ready,r i hi]
  have e1:(listed.push false).getD i true=listed.getD i true:=by
   rw[M,M,i_,if_neg O]
  rw[e1]
  constructor
  ·rintro⟨q,d,k,v⟩
   refine⟨q,d,k,λe l g=>?_⟩
   have:=uz i d k e l g
   have y:=v e l g
   exact(f listed false e.on O).1 y
  ·rintro⟨q,d,k,v⟩
   refine⟨q,d,k,λe l g=>?_⟩
   have:=uz i d k e l g
   exact(f listed false e.on O).2 (v e l g)
 have s:∀(listed:Array Bool),listed.size=ops.pop.size->(∀i,i<ops.pop.size->dH listed i)->ops.pop.size∈Region.ready .any ops (listed.push false):=by
  intro listed c hl
  rw[mem_ready]
  refine⟨?_,o,p,λe l g=>?_⟩
  ·rw[M,i_,if_pos O];rfl
  ·have:=uz _ o p e l g
   exact(f listed false e.on O).2 (hl e.on this)
 have done:∀(listed:Array Bool),listed.size=ops.pop.size->(∀i,i<ops.pop.size->dH listed i)->Region.ready .any ops ((listed.push false).setIfInBounds ops.pop.size true)=[]:=by
  intro listed c hl
  apply List.eq_nil_iff_forall_not_mem.2
  intro i hi
  rw[mem_ready]at hi
  obtain⟨q,d,k,_⟩:=hi
  have C:=(Array.getElem?_eq_some_iff.1 k).1
  by_cases e:i=ops.pop.size
  ·subst e
   rw[M,f_]at q
   simp[c]at q
  ·have:=hl i O
   unfold dH at this
   rw[M,f_,if_neg (λW=>e W.symm),i_,if_neg O]at q
   rw[M,b_ O]at this
   grind
 have allOf:∀(listed:Array Bool),listed.size=ops.pop.size->(∀j d,ops.pop[j]? =a_ d->dH listed j->∀e∈d.after,Region.binds .any e=true->dH listed e.on)->ops.pop.size∈Region.ready .any ops (listed.push false)->∀i,i<ops.pop.size->dH listed i:=by
  intro listed c D F i hi
  rw[mem_ready]at F
  obtain⟨_,d,k,v⟩:=F
  refine j3 (listed:=dH listed) hplan (λj t T hl e l g=>?_) k (λe l g=>?_) i (K i hi)
  ·have a6:j<ops.pop.size:=by
    rcases Nat.lt_or_ge j ops.pop.size with h|h
    ·exact h
    ·unfold dH at hl
     grind
   grind
  ·have:=uz _ d k e l g
   exact(f listed false e.on O).1 (v e l g)
 have m:∀(listed:Array Bool),listed.size=ops.pop.size->Region.ready .any ops.pop listed=[]->∀i,i<ops.pop.size->dH listed i:=by
  intro listed c F i
  induction i using D_ with
  |_ i X=>
   intro hi
   apply z
   intro hn
   have:i∈Region.ready .any ops.pop listed:=by
    refine mem_ready.2 ⟨?_,ops.pop[i],b_ hi,λe l g=>?_⟩
    ·unfold dH at hn
     grind
    ·have Y:=iZ u (b_ hi) l g
     exact X e.on Y O
   grind
 have last:∀(fuel:Nat)(listed:Array Bool)(a:Act)(w:World),listed.size=ops.pop.size->(∀i,i<ops.pop.size->dH listed i)->Q1 .normal a w->
   wpOpIn (WF ro) n P ops Q ops.pop.size (wpAnyIn (WF ro) n P .any ops Q fuel ((listed.push false).setIfInBounds ops.pop.size true)) a w:=by
  intro fuel listed a w c hl U
  have hd:=done listed c hl
  have V:∀a w,Q .normal a w->wpAnyIn (WF ro) n P .any ops Q fuel ((listed.push false).setIfInBounds ops.pop.size true) a w:=λa w U=>by
   cases fuel with
   |zero=>exact⟨hd,U⟩
   |succ fuel=>exact⟨λ_=>U,λi hi=>by rw[hd]at hi;cases hi⟩
  have:=hN a w U
  unfold wpOpIn at this⊢
  rw[p]at this⊢
  simp only at this⊢
  split at this
  ·rename_i L
   rw[if_pos L]
   exact Oper.wpIn_mono V this
  ·grind
 intro fuel
 induction fuel with
 |zero=>
  intro listed a w c D h
  obtain⟨q,v⟩:=h
  have hl:=m listed c q
  refine⟨λF=>?_,λi hi=>?_⟩
  grind
  ·by_cases e:i<ops.pop.size
   ·have:=(E listed i c e).1 hi
    rw[q]at this;cases this
   ·obtain⟨_,d,k,_⟩:=mem_ready.1 hi
    have:i<ops.size:=(Array.getElem?_eq_some_iff.1 k).1
    have Z:i=ops.pop.size:=O
    subst Z
    exact last 0 listed a w c hl v
 |succ fuel X=>
  intro listed a w c D h
  obtain⟨q,v⟩:=h
  refine⟨λF=>?_,λi hi=>?_⟩
  ·have G:Region.ready .any ops.pop listed=[]:=by
    apply List.eq_nil_iff_forall_not_mem.2
    intro i hi
    obtain⟨_,d,k,_⟩:=mem_ready.1 hi
    have C:=(Array.getElem?_eq_some_iff.1 k).1
    have:=(E listed i c C).2 hi
    rw[F]at this;cases this
   have:=s listed c (m listed c G)
   rw[F]at this;cases this
  ·by_cases e:i<ops.pop.size
   ·have N:=(E listed i c e).1 hi
    have y:=v i N
    obtain⟨_,d,H,ad⟩:=mem_ready.1 N
    have R:(listed.push false).setIfInBounds i true=(listed.setIfInBounds i true).push false:=by
     apply E_
     simp only[Array.toList_setIfInBounds,Array.toList_push]
     rw[List.set_append_left _ _ zJ]
    have S:∀j t,ops.pop[j]? =a_ t->dH (listed.setIfInBounds i true) j->∀e∈t.after,Region.binds .any e=true->dH (listed.setIfInBounds i true) e.on:=by
     have hs:∀j,dH (listed.setIfInBounds i true) j↔j=i∨dH listed j:=λj=>by
      unfold dH
      by_cases e:j=i
      ·subst e
       simp[M,show j<listed.size by omega]
      ·simp only[M,f_]
       rw[if_neg (λW=>e W.symm)]
       simp[e]
     intro j t T hl ed l g
     refine(hs _).2 (.inr ?_)
     rcases(hs j).1 hl with rfl|hl
     ·rw[H]at T;cases T
      exact ad ed l g
     ·exact D j t T hl ed l g
    have V:∀a w,wpAnyIn (WF ro) n P .any ops.pop Q1 fuel (listed.setIfInBounds i true) a w->wpAnyIn (WF ro) n P .any ops Q (fuel+1) ((listed.push false).setIfInBounds i true) a w:=λa w h=>by
     rw[R]
     exact X _ a w (by simp[c]) S h
    have J:Region.wanted d (yielded ops a.tmps)=Region.wanted d (yielded ops.pop a.tmps):=by
     unfold Region.wanted
     cases ag:d.guard with
     |none=>rfl
     |some jb=>
      obtain⟨j,b⟩:=jb
      have hm:d∈ops.pop.toList:=by
       rw[y_]
       exact⟨i,by rw[g_];exact H⟩
      have:=hg d hm j b ag
      simp only[yielded,r j this]
    unfold wpOpIn at y⊢
    rw[<-r i e]
    rw[H]at y⊢
    simp only at y⊢
    rw[J]
    split at y
    ·rename_i L
     rw[if_pos L]
     exact Oper.qB hQ (Oper.wpIn_mono V y)
    ·rename_i L
     rw[if_neg L]
     exact⟨y.1,V _ _ y.2⟩
   ·obtain⟨_,d,k,_⟩:=mem_ready.1 hi
    have:i<ops.size:=(Array.getElem?_eq_some_iff.1 k).1
    have Z:i=ops.pop.size:=O
    subst Z
    have hl:=allOf listed c D hi
    have G:Region.ready .any ops.pop listed=[]:=by
     apply List.eq_nil_iff_forall_not_mem.2
     intro i hi
     obtain⟨h0,d,k,_⟩:=mem_ready.1 hi
     have C:=(Array.getElem?_eq_some_iff.1 k).1
     have:=hl i C
     unfold dH at this
     rw[M,b_ O]at h0 this
     simp at h0 this
     rw[h0]at this;cases this
    exact last (fuel+1) listed a w c hl (q G)
end
section
variable {R:Type} {X:RI R} {sem:R->Prop} (hX:X.Ok sem) {I:ba} {P:Program} (hI:I.Ok P)
include hX hI in
theorem sJ(N:Nat):ou P I sem (vQ X I N):=by
 intro m round f d ops k s h
 unfold vQ at h
 cases ht:Ea I ops with
 |false=>rw[ht]at h;exact KX hX hI N m round f d ops k s h
 |true=>
  rw[ht,cond_true]at h
  obtain⟨sf,J,O⟩:=sG hX hI N f d h
  unfold Ea at ht
  split at ht
  ·cases ht
  ·rename_i o v
   simp only[bf]at ht
   obtain⟨⟨⟨⟨_,y⟩,C⟩,p⟩,R⟩:=ht
   obtain⟨q,g,r⟩:=Gq v
   simp only[v]at J
   have l:ops.toList.drop ops.pop.size=[o]:=by
    have D:ops.toList=ops.pop.toList++[o]:=by
     apply List.ext_getElem?
     intro i
     rcases Nat.lt_trichotomy i ops.pop.size with e|e|e
     ·rw[List.getElem?_append_left (by simpa using e),g_,g_,r i e]
     ·subst e
      rw[List.getElem?_append_right zA,g_,g]
      simp
     ·rw[l_ (by simp at e⊢;omega),l_ (by simp at e⊢;omega)]
    rw[D,List.drop_append_of_le_length zA,List.drop_of_length_le zA]
    rfl
   obtain⟨e,S,T⟩:=vR hX hI f d [o] ops.pop.size sf l J
   refine⟨e,S,λro n c ρ a w id hG U=>wpIn_region_any hI.mixed ?_⟩
   have t:=O ro n c ρ a w hG U
   have u:k_ ops.size false=(k_ ops.pop.size false).push false:=by
    apply E_
    rw[q]
    simp[List.replicate_succ']
   rw[u,q]
   refine K0 (Q1:=(aQ.n sf).post c ρ) (Q:=e.post c ρ) v y C (λi hi=>List.all_eq_true.1 p i (List.mem_range.2 hi)) (λK E j b F=>?_) (λx a w hx G=>?_) (λa w G=>?_) ops.pop.size _ a _ zA (λj K _ hl=>?_) t
   ·have:=List.all_eq_true.1 R K E
    rw[F]at this
    simpa using this
   ·cases x<;>first|exact absurd A hx|exact G.elim
   ·obtain⟨ρ',hx,H⟩:=G
    have:=T ro n c ρ' a w (e.post c ρ) hG H λx a' w' y=>aQ.gO hx y
    have D:List.range' ops.pop.size [o].length=[ops.pop.size]:=rfl
    rw[D,wpOpsIn_cons]at this
    exact this
   ·exfalso
    unfold dH at hl
    rw[M,u_]at hl
    by_cases L:j<ops.pop.size
    ·rw[if_pos L]at hl;cases hl
    ·rw[if_neg L]at hl;cases hl
end
section
variable {P:Program} {I:ba} {ops:Array Oper} {o:Oper} {y:Nat}
theorem Pz{ro:Option Nat}{n:Nat}{Q1 Q:Exit->Act->World->Prop}(X:ops[y]? =a_ o)(hplan:gP I ops (bz ops)=true)(D:gP I (ops.extract 0 y) (bz (ops.extract 0 y))=true)
  (T:∀i,i<y->(bz ops).pre i y=true) (a6:∀i,y<i->i<ops.size->(bz ops).pre y i=true) (hg:∀f∈(ops.extract 0 y).toList,∀j b,f.guard=a_ (j,b)->j<y)
  (hQ:∀x a w,x≠ .normal->Q1 x a w->Q x a w) (hN:∀a w,Q1 .normal a w->wpOpIn (WF ro) n P ops Q y (λ_ _=>False) a w) (m:Nat):
  ∀(fuel:Nat)(listed L:Array Bool)(a:Act)(w:World),listed.size=y->L.size=ops.size->(∀i,i<y->(dH L i↔dH listed i))->(∀i,y<=i->¬ dH L i)->
   (∀j f,(ops.extract 0 y)[j]? =a_ f->dH listed j->∀e∈f.after,Region.binds .any e=true->dH listed e.on)->
   wpAnyIn (WF ro) n P .any (ops.extract 0 y) Q1 fuel listed a w->wpAnyIn (WF ro) n P .any ops Q (fuel+(m+1)) L a w:=by
 have a8:y<ops.size:=(Array.getElem?_eq_some_iff.1 X).1
 have bc:(ops.extract 0 y).size=y:=by simp;omega
 have t:∀i,i<y->(ops.extract 0 y)[i]? =ops[i]? :=λi hi=>by
  grind
 have uz:∀j f,ops[j]? =a_ f->∀e∈f.after,Region.binds .any e=true->e.on<j:=λj f C e r s=>iZ hplan C r s
 have E:∀(L:Array Bool) i,i<L.size->(L.getD i true=false↔ ¬ dH L i):=λL i hi=>by
  unfold dH
  grind
 have H:∀(listed L:Array Bool) i,listed.size=y->L.size=ops.size->(∀i,i<y->(dH L i↔dH listed i))->i<y->(i∈Region.ready .any ops L↔i∈Region.ready .any (ops.extract 0 y) listed):=by
  intro listed L i k hL d hi
  rw[mem_ready,mem_ready,t i hi,E L i O,E listed i O,d i hi]
  constructor
  ·grind
  ·grind
 have F:∀(listed L:Array Bool),L.size=ops.size->(∀i,i<y->(dH L i↔dH listed i))->(∀i,y<=i->¬ dH L i)->(∀i,i<y->dH listed i)->y∈Region.ready .any ops L:=by
  intro listed L hL d g hl
  rw[mem_ready,E L y O]
  refine⟨g y (dw _),o,X,λe r s=>?_⟩
  have:=uz _ o X e r s
  exact Y
 have a7:∀(listed L:Array Bool),(∀i,i<y->(dH L i↔dH listed i))->(∀i,y<=i->¬ dH L i)->(∀j f,(ops.extract 0 y)[j]? =a_ f->dH listed j->∀e∈f.after,Region.binds .any e=true->dH listed e.on)->
   ∀j f,ops[j]? =a_ f->dH L j->∀e∈f.after,Region.binds .any e=true->dH L e.on:=by
  intro listed L d g p j f u hl e r s
  have bd:j<y:=Y
  have:=uz j f u e r s
  exact Y
 have l:∀(listed L:Array Bool),L.size=ops.size->(∀i,i<y->(dH L i↔dH listed i))->(∀i,y<=i->¬ dH L i)->(∀j f,(ops.extract 0 y)[j]? =a_ f->dH listed j->∀e∈f.after,Region.binds .any e=true->dH listed e.on)->
   ∀i,i∈Region.ready .any ops L->¬ i<y->i=y:=by
  intro listed L hL d g p i hi bi
  obtain⟨_,f,C,J⟩:=mem_ready.1 hi
  have Z:=(Array.getElem?_eq_some_iff.1 C).1
  apply z
  intro bq
  exact g y (dw _) (j3 (listed:=dH L) hplan Y C (λe r s=>J e r s) y Y)
 have v:∀(listed:Array Bool),listed.size=y->Region.ready .any (ops.extract 0 y) listed=[]->∀i,i<y->dH listed i:=by
  intro listed k G i
  induction i using D_ with
  |_ i ih=>
   intro hi
   apply z
   intro hn
   have:i∈Region.ready .any (ops.extract 0 y) listed:=by
    refine mem_ready.2 ⟨Y,(ops.extract 0 y)[i]'O,b_ O,λe r s=>?_⟩
    have bs:=iZ D (b_ O) r s
    exact Y
   grind
 have allOf:∀(listed L:Array Bool),listed.size=y->L.size=ops.size->(∀i,i<y->(dH L i↔dH listed i))->(∀i,y<=i->¬ dH L i)->(∀j f,(ops.extract 0 y)[j]? =a_ f->dH listed j->∀e∈f.after,Region.binds .any e=true->dH listed e.on)->
   y∈Region.ready .any ops L->∀i,i<y->dH listed i:=by
  intro listed L k hL d g p G i hi
  obtain⟨_,f,C,J⟩:=mem_ready.1 G
  exact(d i hi).1 (j3 (listed:=dH L) hplan Y C (λe r s=>J e r s) i (T i hi))
 have last:∀(K:Act->World->Prop)(a:Act)(w:World),Q1 .normal a w->wpOpIn (WF ro) n P ops Q y K a w:=by
  intro K a w hq
  have:=hN a w hq
  unfold wpOpIn at this⊢
  rw[X]at this⊢
  simp only at this⊢
  split at this
  ·rename_i U
   rw[if_pos U]
   exact Oper.wpIn_mono (λ_ _ h=>h.elim) this
  ·exact this.2.elim
 have q:∀(listed L:Array Bool),listed.size=y->L.size=ops.size->(∀i,i<y->(dH L i↔dH listed i))->(∀i,y<=i->¬ dH L i)->Region.ready .any ops L≠[]:=by
  intro listed L k hL d g G
  have hn:Region.ready .any (ops.extract 0 y) listed=[]:=by
   apply List.eq_nil_iff_forall_not_mem.2
   intro i hi
   obtain⟨_,f,C,_⟩:=mem_ready.1 hi
   have Z:=(Array.getElem?_eq_some_iff.1 C).1
   have:=(H listed L i k hL d O).2 hi
   rw[G]at this;cases this
  have:=F listed L hL d g (v listed k hn)
  rw[G]at this;cases this
 intro fuel
 induction fuel with
 |zero=>
  intro listed L a w k hL d g p h
  obtain⟨h1,J⟩:=h
  rw[c_]
  refine⟨λG=>absurd G (q listed L k hL d g),λi hi=>?_⟩
  by_cases e:i<y
  ·have:=(H listed L i k hL d e).1 hi
   rw[h1]at this;cases this
  ·have:=l listed L hL d g p i hi e
   subst this
   exact last _ a w J
 |succ fuel ih=>
  intro listed L a w k hL d g p h
  obtain⟨h1,J⟩:=h
  have e1:fuel+1+(m+1)=(fuel+(m+1))+1:=O
  rw[e1]
  refine⟨λG=>absurd G (q listed L k hL d g),λi hi=>?_⟩
  by_cases e:i<y
  ·have V:=(H listed L i k hL d e).1 hi
   have N:=J i V
   obtain⟨_,f,R,ad⟩:=mem_ready.1 V
   have W:∀(c:Array Bool) j,i<c.size->(dH (c.setIfInBounds i true) j↔j=i∨dH c j):=λc j hA=>by
    unfold dH
    by_cases e:j=i
    ·subst e
     simp[M,hA]
    ·simp only[M,f_]
     rw[if_neg (λe'=>e e'.symm)]
     simp[e]
   have hK:∀a w,wpAnyIn (WF ro) n P .any (ops.extract 0 y) Q1 fuel (listed.setIfInBounds i true) a w->wpAnyIn (WF ro) n P .any ops Q (fuel+(m+1)) (L.setIfInBounds i true) a w:=λa w h=>by
    refine ih _ _ a w (by simp[k]) (by simp[hL]) (λj u=>?_) (λj u hl=>?_) (λj ag u hl ed r s=>?_) h
    ·rw[W L j O,W listed j O,d j u]
    ·rcases(W L j O).1 hl with e2|e2
     ·omega
     ·exact g j u e2
    ·refine(W listed _ O).2 (.inr ?_)
     rcases(W listed j O).1 hl with rfl|hl
     ·rw[R]at u;cases u
      exact ad ed r s
     ·exact p j ag u hl ed r s
   have S:Region.wanted f (yielded ops a.tmps)=Region.wanted f (yielded (ops.extract 0 y) a.tmps):=by
    unfold Region.wanted
    cases ap:f.guard with
    |none=>rfl
    |some jb=>
     obtain⟨j,b⟩:=jb
     have hm:f∈(ops.extract 0 y).toList:=by
      rw[y_]
      exact⟨i,by rw[g_];exact R⟩
     have:=hg f hm j b ap
     simp only[yielded,t j this]
   unfold wpOpIn at N⊢
   rw[<-t i e]
   rw[R]at N⊢
   simp only at N⊢
   rw[S]
   split at N
   ·rename_i U
    rw[if_pos U]
    exact Oper.qB hQ (Oper.wpIn_mono hK N)
   ·rename_i U
    rw[if_neg U]
    exact⟨N.1,hK _ _ N.2⟩
  ·have:=l listed L hL d g p i hi e
   subst this
   have hl:=allOf listed L k hL d g p hi
   have hn:Region.ready .any (ops.extract 0 i) listed=[]:=by
    apply List.eq_nil_iff_forall_not_mem.2
    intro j u
    obtain⟨h0,f,C,_⟩:=mem_ready.1 u
    have b0:=(Array.getElem?_eq_some_iff.1 C).1
    exact(E listed j O).1 h0 (hl j O)
   exact last _ a w (h1 hn)
end
def cutAt(a:List Nat):List Oper->Nat->Option Nat
 |[],_=>n_
 |o::os,i=>match o.op with
  | .call {callee:=.value (.func f),..}=>bif sE a f then a_ i else cutAt a os (i+1)
  |_=>cutAt a os (i+1)
def K1(I:ba)(ops:Array Oper)(y:Nat):Bool :=
 gP I ops (bz ops)&&gP I (ops.extract 0 y) (bz (ops.extract 0 y))&&(e_ y).all (λi=>(bz ops).pre i y)&&(e_ ops.size).all (λi=>!Nat.blt y i||(bz ops).pre y i)&&
  (ops.extract 0 y).toList.all (λo=>match o.guard with|none=>true|some (j,_)=>t_ j y)
section
variable {R:Type} (X:RI R) (I:ba)
def Aa(N:Nat)(b:List Nat):ot R:=λa round ops k s=>
 match cutAt b ops.toList 0 with
 |none=>vQ X I N a round ops k s
 |some y=>match ops[y]? with
  |none=>X.fail
  |some o=>bif K1 I ops y then
    drawn X I N a round (ops.extract 0 y) {k with n:=λc=>l4 X I a round ops {k with n:=λ_=>vQ X I N a round ops k s} [o] c} s
   else vQ X I N a round ops k s
end
section
variable {R:Type} {X:RI R} {sem:R->Prop} (hX:X.Ok sem) {I:ba} {P:Program} (hI:I.Ok P)
include hX hI in
theorem K3{i:iQ R}(C:gN P I sem i){round:gZ R}(t:hZ P I sem round){ops:Array Oper}{k:KS R}{o:Oper}{y:Nat}(N:ops[y]? =a_ o){s:St}(h:sem (l4 X I i round ops k [o] s)):
  ∃e:aQ,e.sem sem k/\((∃q,e= .n q)∨∃v q,e= .p v q)/\∀ro n c ρ a w,c.G=I.G->cA c ρ s a w->wpOpIn (WF ro) n P ops (e.post c ρ) y (λa w=>e.post c ρ .normal a w) a w:=by
 have run:∀s:St,sem (Pq X I i round o (s.ev I.G) s.H (λa H=>l4 X I i round ops k [] ((s.heap H).put o.dst a)) (λa H=>k.p a (s.heap H)))->
   ∃e:aQ,e.sem sem k/\((∃q,e= .n q)∨∃v q,e= .p v q)/\∀ro n c ρ a w,c.G=I.G->cA c ρ s a w->Region.wanted o (yielded ops a.tmps)=true->wpOpIn (WF ro) n P ops (e.post c ρ) y (λa w=>e.post c ρ .normal a w) a w:=by
  intro s h
  obtain⟨out,l,m⟩:=D3 hX hI C t h
  cases out with
  |ret v H'=>
   refine⟨.n _,l,.inl ⟨_,rfl⟩,λro n c ρ a w hG f F=>?_⟩
   unfold wpOpIn
   rw[N]
   simp only[F,if_true]
   refine m ro n c ρ w a _ _ hG (f.ev hG) f.heap (λO H2 u w' ρ' D hx E Q=>?_) λO H2 u w' ρ' D=>by cases D
   cases D
   exact⟨ρ',hx,f.put hx E Q o.dst⟩
  |qt v H'=>
   refine⟨.p v (s.heap H'),l,.inr ⟨_,_,rfl⟩,λro n c ρ a w hG f F=>?_⟩
   unfold wpOpIn
   rw[N]
   simp only[F,if_true]
   refine m ro n c ρ w a _ _ hG (f.ev hG) f.heap (λO H2 u w' ρ' D=>by cases D) λO H2 u w' ρ' D hx E Q=>?_
   cases D
   exact⟨ρ',u,rfl,hx,⟨f.tmp.ext hx,E,f.df.ext hx⟩,Q⟩
 have skip:∀s:St,sem (l4 X I i round ops k [] (s.put o.dst (.bK [])))->
   ∃e:aQ,e.sem sem k/\((∃q,e= .n q)∨∃v q,e= .p v q)/\∀ro n c ρ a w,c.G=I.G->cA c ρ s a w->Region.wanted o (yielded ops a.tmps)=false->wpOpIn (WF ro) n P ops (e.post c ρ) y (λa w=>e.post c ρ .normal a w) a w:=by
  intro s h
  refine⟨.n _,h,.inl ⟨_,rfl⟩,λro n c ρ a w hG f F=>?_⟩
  unfold wpOpIn
  rw[N]
  simp only[F,kH,if_false]
  exact⟨λ_ _=>trivial,ρ,Ext.refl ρ,f.put (Ext.refl ρ) f.heap vD o.dst⟩
 simp only[l4]at h
 split at h
 ·rename_i K
  obtain⟨e,l,m,r⟩:=run s h
  exact⟨e,l,m,λro n c ρ a w hG f=>r ro n c ρ a w hG f (by simp[Region.wanted,K])⟩
 ·rename_i j x K
  split at h
  ·exact zR
  ·rename_i d S
   split at h
   ·rename_i b L
    have J:=hX.cond _ _ _ h
    have g:∀c ρ a w,cA c ρ s a w->Region.wanted o (yielded ops a.tmps)=(b==x):=λc ρ a w f=>ph K S (by
     have:=f.tmp.2 d
     rw[L]at this
     simpa only[VR]using this)
    have lit:∀c ρ a w,cA c ρ s a w->cA c ρ (s.put (a_ d) (.bool b)) a w:=λc ρ a w f=>f.lit L
    cases b<;>cases x<;>simp only[if_true,kH,if_false,cond_true,cond_false]at J
    ·obtain⟨e,l,m,r⟩:=run _ J
     exact⟨e,l,m,λro n c ρ a w hG f=>r ro n c ρ a w hG (lit c ρ a w f) (by rw[g c ρ a w f];rfl)⟩
    ·obtain⟨e,l,m,r⟩:=skip _ J
     exact⟨e,l,m,λro n c ρ a w hG f=>r ro n c ρ a w hG (lit c ρ a w f) (by rw[g c ρ a w f];rfl)⟩
    ·obtain⟨e,l,m,r⟩:=skip _ J
     exact⟨e,l,m,λro n c ρ a w hG f=>r ro n c ρ a w hG (lit c ρ a w f) (by rw[g c ρ a w f];rfl)⟩
    ·obtain⟨e,l,m,r⟩:=run _ J
     exact⟨e,l,m,λro n c ρ a w hG f=>r ro n c ρ a w hG (lit c ρ a w f) (by rw[g c ρ a w f];rfl)⟩
   ·rename_i L
    obtain⟨e,l,m,r⟩:=skip s h
    refine⟨e,l,m,λro n c ρ a w hG f=>r ro n c ρ a w hG f (nA K S ?_)⟩
    have:=f.tmp.2 d
    rw[L]at this
    simp only[VR]at this
    obtain⟨vs,U,T⟩:=this
    simp only[aU]at T
    subst T
    exact U
   ·exact zR
include hX hI in
theorem yy(N:Nat)(C:List Nat):ou P I sem (Aa X I N C):=by
 intro l round f d ops k s h
 unfold Aa at h
 split at h
 ·exact sJ hX hI N l round f d ops k s h
 ·rename_i y W
  split at h
  ·exact zR
  ·rename_i o G
   cases D:K1 I ops y with
   |false=>rw[D]at h;exact sJ hX hI N l round f d ops k s h
   |true=>
    rw[D,cond_true]at h
    obtain⟨sf,H,J⟩:=sG hX hI N f d h
    unfold K1 at D
    simp only[bf]at D
    obtain⟨⟨⟨⟨K,L⟩,E⟩,F⟩,hg⟩:=D
    have ad:y<ops.size:=(Array.getElem?_eq_some_iff.1 G).1
    have R:(ops.extract 0 y).size=y:=by simp;omega
    obtain⟨e,Y,t,h4⟩:=K3 hX hI f d G H
    cases e with
    |n s2=>exact sJ hX hI N l round f d ops k s Y
    |p v s2=>
     refine⟨.p v s2,Y,λro n c ρ a w id hG hr=>wpIn_region_any hI.mixed ?_⟩
     have q:=J ro n c ρ a w hG hr
     rw[R]at q
     have hL:∀m i,¬ dH (k_ m false) i:=λm i hl=>by
      unfold dH at hl
      rw[M,u_]at hl
      by_cases Z:i<m
      ·rw[if_pos Z]at hl;cases hl
      ·rw[if_neg Z]at hl;cases hl
     obtain⟨m,hm⟩:∃m,ops.size=y+(m+1):=⟨ops.size-y-1,O⟩
     have:=Pz (Q1:=(aQ.n sf).post c ρ) (Q:=(aQ.p v s2).post c ρ) G K L (λi hi=>List.all_eq_true.1 E i (List.mem_range.2 hi)) (λi H J=>?_) (λo' S j b T=>?_) (λx a w hx U=>?_) (λa w U=>?_) m y _ (k_ ops.size false) a _ zA zA (λi hi=>?_) (λi _=>hL _ i) (λj o' _ hl=>absurd hl (hL _ j)) q
     ·rw[<-hm]at this;exact this
     ·have:=List.all_eq_true.1 F i (List.mem_range.2 J)
      have hb:t_ y i=true:=by rw[v_];exact H
      rw[hb]at this
      simpa using this
     ·have:=List.all_eq_true.1 hg o' S
      rw[T]at this
      simpa using this
     ·cases x<;>first|exact absurd A hx|exact U.elim
     ·obtain⟨ρ',hx,V⟩:=U
      have u:=h4 ro n c ρ' a w hG V
      unfold wpOpIn at u⊢
      rw[G]at u⊢
      simp only at u⊢
      split at u
      ·rename_i hw
       rw[if_pos hw]
       exact Oper.qB (λx a w _ K=>aQ.gO hx K) (Oper.wpIn_mono (λ_ _ h=>h.elim) u)
      ·exact u.2.elim
     ·exact⟨λh=>absurd h (hL _ i),λh=>absurd h (hL _ i)⟩
    |x i s2=>rcases t with⟨_,e⟩|⟨_,_,e⟩<;>cases e
    |g i s2=>rcases t with⟨_,e⟩|⟨_,_,e⟩<;>cases e
    |r s2=>rcases t with⟨_,e⟩|⟨_,_,e⟩<;>cases e
end
end
def kM:Code->Nat
 | .region id ops _=>1000*id+ops.size
 | .seq a _=>kM a
 | .block _ c=>kM c
 | .scope c=>kM c
 | .loop c=>kM c
 |_=>0
def PA:Nat:=1000000000000
structure ky (n0:Nat) (a:AV) (H:AH) (a':AV) (H':AH):Prop where
 le:∃σ,AH.Le n0 σ H H'/\AV.le σ a a'
def af.le{P:Program}{I:ba}{f:FuncId}{args:List AV}{H H1 H':AH}{a a':AV}(h:af P I f args H (.ret a H1))(k:ky H.n a H1 a' H'):af P I f args H (.ret a' H'):=by
 obtain⟨σ,k1,k2⟩:=k.le
 intro c ρ w vs hG t b
 have post:∀e w',(CO.ret a H1).post c ρ e w'->(CO.ret a' H').post c ρ e w':=by
  intro e w' d
  cases e with
  |returned v=>
   obtain⟨ρ',hx,i,j⟩:=d
   have m:c.G<=H.n:=by
    refine d_ λo=>?_
    obtain⟨N,q⟩:=b.fp H.n o
    rw[b.top _ (dw _)]at q;cases q
   refine⟨_,((iU.of hx).trans (k1.ext ρ')).ext b,i.view k1 m λl hl=>(b.env l hl).1,VR.le _ _ _ k2 j⟩
  |panicked u=>exact d.elim
  |outgrown=>exact d.elim
 rcases h c ρ w vs hG t b with⟨h1,s⟩|⟨v,w',h1,s⟩
 ·exact .inl ⟨h1,s.mono post⟩
 grind
def Tu(p:Nat->Prop):Nat->Prop:=λn=>Nat.rec (motive:=λ_=>Prop) True (λi acc=>acc/\p i) n
def gS{p}:∀{n},Tu p n↔ ∀i,i<n->p i
 |0=>⟨zA,λ_=>trivial⟩
 |n+1=>by
  constructor
  ·rintro⟨h1,a⟩ i hi
   by_cases e:i=n
   ·subst e;exact a
   ·exact gS.1 h1 i O
  ·intro h
   exact⟨gS.2 λi hi=>h i O,h n O⟩
def sig(n0:Nat)(a:List Nat)(N l:Nat):Nat:=bif t_ l n0 then l else match a[l-n0]? with
 |some x=>x
 |none=>N+l
def tO(σ:Nat->Nat)(N l:Nat)(H:AH):ai->Prop
 | .dead=>True
 |b=>if σ l<N then(H.get (σ l)).le σ b else b.nothing
def sK:List Nat->Bool
 |[]=>true
 |a::as=>bif sE as a then false else sK as
def Tr.vS{α:Type}(N:Nat):Tr α->(Nat->Nat)->Bool
 | .e,_=>true
 | .n l v r,f=>(match v with|none=>true|some _=>t_ (f 0) N)&&l.vS N (λi=>f (2*i+1))&&r.vS N (λi=>f (2*i+2))
def Tr.sL{α:Type}{N:Nat}:∀{t:Tr α}{f:Nat->Nat},t.vS N f=true->∀i,N<=f i->t.get i=n_
 | .e,_,_,_,_=>rfl
 | .n l v r,f,h,i,hi=>by
  simp only[Tr.vS,bf]at h
  simp only[Tr.get]
  cases a:s_ i 0 with
  |true=>
   have:=dE a
   subst this
   cases v with
   |none=>rfl
   |some x=>
    have:=h.1.1
    rw[v_]at this
    omega
  |false=>
   have b:i≠0:=λe=>by subst e;cases a
   cases h1:s_ (i%2) 1 with
   |true=>
    have c:=dE h1
    exact Tr.sL h.1.2 (i/2) (by
     grind)
   |false=>
    have c:i%2≠1:=λe=>ZD
    exact Tr.sL h.2 (i/2-1) (by
     grind)
def AH.PB(H:AH):Bool:=H.t.vS H.n (λi=>i)
def AH.Tv{H:AH}(h:H.PB=true):∀l,H.n<=l->H.get l= .dead:=λl hl=>by
 have:=Tr.sL h l hl
 simp only[AH.get,this]
def ai.Ab:ai->Bool
 | .dead=>true
 |_=>false
def ai.H4{b:ai}(h:b.Ab=true):b= .dead:=by cases b<;>first|rfl|cases h
structure im (n0:Nat) (labs:List Nat) (H H':AH):Prop where
 n:n0+labs.length=H'.n
 ge:(labs.all λx=>p_ n0 x||(H'.get x).Ab)=true
 nodup:sK labs=true
 low:H'.PB=true
 n1:n0<=H.n
 dF:Tu (λl=>tO (sig n0 labs H.n) H.n l H (H'.get l)) H'.n
def vT:∀{l}(_:sK l=true){i j x:Nat},l[i]? =a_ x->l[j]? =a_ x->i=j
 |[],_,i,j,x,h1,_=>by simp at h1
 |a::as,h,i,j,x,h1,b=>by
  simp only[sK]at h
  cases hm:sE as a with
  |true=>rw[hm]at h;cases h
  |false=>
   rw[hm,cond_false]at h
   have c:a∉as:=λe=>by rw[vL.2 e]at hm;cases hm
   cases i with
   |zero=>
    grind
   |succ i=>
    cases j with
    |zero=>
     grind
    |succ j=>
     simp at h1 b
     rw[vT h h1 b]
def Ac{n0 N l a}(h:l<n0):sig n0 a N l=l:=by
 have:t_ l n0=true:=by rw[v_];exact h
 simp[sig,this]
def K6{n0 N l a}(h:n0<=l):sig n0 a N l=match a[l-n0]? with|some x=>x|none=>N+l:=by
 have:t_ l n0=false:=by rw[Bool.eq_false_iff];intro e;rw[v_]at e;omega
 simp[sig,this]
def im.of{n0 a}{H H':AH}(b:n0+a.length=H'.n)(c:(a.all λx=>p_ n0 x||(H'.get x).Ab)=true)(d:sK a=true)(f:H'.PB=true)(i:p_ n0 H.n=true)
  (h:Tu (λl=>tO (sig n0 a H.n) H.n l H (H'.get l)) H'.n):im n0 a H H':=⟨b,c,d,f,ZD,h⟩
def im.le{n0:Nat}{a:List Nat}{H H':AH}(h:im n0 a H H'):AH.Le n0 (sig n0 a H.n) H H':=by
 have d:=AH.Tv h.low
 refine⟨by have:=h.n;omega,λl hl=>Ac hl,λl hl=>?_,λl=>?_,λl m v u e b=>?_,d⟩
 ·have:=h.n
  rw[K6 O,l_ O]
  simp
 ·by_cases hl:l<H'.n
  ·have:=gS.1 h.dF l hl
   unfold tO at this
   grind
  grind
 ·have c:∀l,n0<=l->(sig n0 a H.n l)<H.n->∃x,a[l-n0]? =a_ x/\sig n0 a H.n l=x:=λl hl b=>by
   rw[K6 hl]at b⊢
   grind
  have ge:∀x,x∈a->H'.get x≠ .dead->n0<=x:=λx hx o=>by
   have:=List.all_eq_true.1 h.ge x hx
   simp only[Bool.or_eq_true]at this
   rcases this with k|k
   simp_all
   ·exact absurd (ai.H4 k) o
  by_cases h1:l<n0
  ·rw[Ac h1]at e
   by_cases f:m<n0
   ·rw[Ac f]at e;exact e
   ·obtain⟨x,i,j⟩:=c m (d_ f) (by rw[<-e];have:=h.n1;omega)
    grind
  ·obtain⟨x,i,j⟩:=c l (d_ h1) b
   by_cases f:m<n0
   ·rw[Ac f]at e
    grind
   ·obtain⟨y,q,s⟩:=c m (d_ f) (by rw[<-e];exact b)
    have t:x=y:=by rw[<-j,<-s,e]
    subst t
    have:=vT h.nodup i q
    omega
def St.VA{n0 s b}(a)(h:im n0 a s.H b.H)(c:s.nt=b.nt)(ht:Tr.le (sig n0 a s.H.n) s.t b.t)(d:s.df=b.df.map (sig n0 a s.H.n)):St.Le n0 s b :=
 ⟨⟨_,h.le,c,ht,d⟩⟩
def ky.of{n0 a a' H H'}(b)(h:im n0 b H H')(c:AV.le (sig n0 b H.n) a a'):ky n0 a H a' H':=⟨⟨_,h.le,c⟩⟩
structure aC (P:Program) (I:ba) where
 f:FuncId
 spec:{R:Type}->RI R->Spec R
 ok:∀{R:Type}(X:RI R)(sem:R->Prop),X.Ok sem->∀args H kn kp,sem (spec X args H kn kp)->∃o:CO,o.sem sem kn kp/\af P I f args H o
def known{P:Program}{I:ba}{R:Type}(X:RI R):List (aC P I)->FuncId->Option (Spec R)
 |[],_=>n_
 |k::ks,f=>bif s_ f k.f then a_ (k.spec X)else known X ks f
def vU{P I R X}{sem:R->Prop}(hX:X.Ok sem):∀ks:List (aC P I),rl P I sem (known X ks)
 |[],f,s,h=>zE
 |k::ks,f,s,h=>by
  intro args H a kp b
  unfold known at h
  cases e:s_ f k.f with
  |true=>
   rw[e,cond_true,fE]at h
   subst h
   rw[dE e]
   exact k.ok X sem hX args H a kp b
  |false=>
   rw[e,cond_false]at h
   exact vU hX ks f s h args H a kp b
def af.pure{P I f args a}(h:af P I f args (h_ I.G) (.ret a (h_ I.G)))(b:∀σ,bt.bD σ args=args)(ha:∀σ,a.bD σ=a)(H):
  af P I f args H (.ret a H):=by
 intro c ρ w vs hG m d
 have o:I.G<=H.n:=by
  rw[<-hG]
  refine d_ λi=>?_
  obtain⟨N,j⟩:=d.fp H.n i
  rw[d.top _ (dw _)]at j;cases j
 have q:∀l,(h_ I.G).get l= .dead:=λl=>rfl
 let σ:Nat->Nat:=λl=>if l<I.G then l else H.n+(l-I.G)
 have s:Sub I.G σ (h_ I.G) H :=
  {lt:=λl hl=>by
    have:l<I.G:=hl
    grind
   ge:=λl hl=>by
    have :¬ l<I.G:=Nat.not_lt.2 hl
    simp only[σ,if_neg this];rfl
   same:=Y
   inj:=Y
   fp:=λg t=>⟨t,Y⟩
   low:=λl _=>q l}
 have ht:Eb σ (h_ I.G) (CO.ret a (h_ I.G)).heap H H :=
  {n:=by show H.n=H.n+(I.G-I.G);omega
   old:=Y
   new:=λl hl=>by
    have :¬ l<I.G:=Nat.not_lt.2 hl
    simp only[σ,if_neg this]
    rw[d.low _ O]
    rfl
   rest:=λ_ _ _=>rfl}
 have:=h.lift s ht
 rw[b]at this
 have e:(CO.ret a (h_ I.G)).iT σ H= .ret a H:=by
  show CO.ret (a.bD σ) H=_
  rw[ha]
 rw[e]at this
 exact this c ρ w vs hG m d
def uA{P:Program}{I:ba}(ks:List (aC P I))(a:gy Prop)(fuel:Nat):kf Prop:=run RI.jY I (known RI.jY ks) a (Aa RI.jY I PA [54,55]) fuel
def nH{P I}(hI:I.Ok P)(ks:List (aC P I)){b}(a:eR P I id b)(fuel):vE P I id (uA ks b fuel):=
 D6 RI.dJ hI (vU RI.dJ ks) a (yy RI.dJ hI PA [54,55]) fuel
def jE{P:Program}{I:ba}(ks:List (aC P I))(a:gy Prop)(fuel:Nat):iQ Prop:=nB RI.jY I (λ_=>n_) (uA ks a fuel)
def fJ{P I}(hI:I.Ok P)(ks:List (aC P I)){b}(a:eR P I id b)(fuel):gN P I id (jE ks b fuel):=
 pk RI.dJ hI (λ_ _ h=>zE) (nH hI ks a fuel)
section
def ai.od:ai->ai
 | .cells cs _=> .cells cs .ro
 | .rows n e f _=> .rows n e f .ro
 | .str s _=> .str s .ro
 |b=>b
def ai.vV:ai->Bool
 | .cells _ _=>true
 | .rows _ _ _ _=>true
 | .str _ _=>true
 |_=>false
theorem aJ.od{ρ:Env}{w:World}{o:Option (Nat×Nat)}{cs:List AV}{a:Access}(h:aJ ρ w o cs a)(j:∀r N vs,o=a_ (r,N)->(∃el fr,w.heap[r]? =a_ (.cells vs.toArray el fr))->ρ.fz r=a_ vs):aJ ρ w o cs .ro:=by
 rcases h with h|⟨b,N,vs,rest,el,fr,h1,c,d,f,l,i,m⟩
 ·exact .inl h
 ·exact .inr ⟨b,N,vs,rest,el,fr,h1,c,d,f,⟨(λe=>zG),zA,zA⟩,i,λ_=>Y⟩
theorem Rel.freeze{c:fw}{ρ:Env}{H:AH}{w:World}(h:Rel c ρ H w){l:Nat}(m:(H.get l).vV=true)(E:(H.get l).rw=true):
  ∃ρ',Ext ρ ρ'/\ρ'.pl=ρ.pl/\Rel c ρ' (H.set l (H.get l).od) w:=by
 have q:∀i,i≠l->(H.set l (H.get l).od).get i=H.get i:=λi e=>AH.bk _ _ (λZ=>e Z.symm)
 have I:(H.get l).od.rw=false:=by
  cases o:H.get l<;>rw[o]at m<;>first|rfl|cases m
 have v:H.get l≠ .dead:=λe=>by rw[e]at E;cases E
 have ad:=h.oZ E
 have G:∀ρ':Env,ρ'.pl=ρ.pl->Ext ρ ρ'->bp ρ' w (ρ l) (H.get l).od->(∀b vs,ρ'.fz b=a_ vs->∃el fr,w.heap[b]? =a_ (.cells vs.toArray el fr))->
   (∀b,ρ'.fz b≠ρ.fz b->∃N,ρ l=a_ (b,N))->Rel c ρ' (H.set l (H.get l).od) w:=by
  intro ρ' t hx o L O
  refine⟨λi=>?_,λi i' r N y C d u F=>?_,λi r N d u=>?_,h.gH,h.size,h.os,h.output,h.tape,λi hi=>?_,λg hg=>?_,λi r N T u=>?_,λi hi=>?_,λi hi=>?_,L,λi r N d u=>?_,λb o=>?_,λb vs e=>hx.fz b vs (h.qZ b vs e)⟩
  ·by_cases e:i=l
   ·subst e;rw[j_,t];exact o
   ·rw[q i e,t];exact(h.dF i).ext hx
  ·have e:i≠l:=λe=>by subst e;rw[j_,I]at d;cases d
   rw[q i e]at d
   rw[t]at u F
   have T:=h.sep i i' r N y C d u F
   grind
  ·have e:i≠l:=λe=>by subst e;rw[j_,I]at d;cases d
   rw[q i e]at d
   rw[t]at u
   exact h.gL i r N d u
  ·rw[t];exact h.top i hi
  ·rw[t];exact h.fp g hg
  ·rw[t]at u
   by_cases e:i=l
   ·subst e;exact h.hid i r N v u
   ·rw[q i e]at T;exact h.hid i r N T u
  ·rw[t];exact h.env i hi
  ·rw[q i (by simp at hi;omega)];exact h.low i hi
  ·have e:i≠l:=λe=>by subst e;rw[j_,I]at d;cases d
   rw[q i e]at d
   rw[t]at u
   apply z
   intro C
   have D:=h.pV i r N d u
   obtain⟨y,F⟩:=O r (by rw[D];exact C)
   exact v (h.sep i l r N y e d u F)
  ·apply z
   intro C
   have D:=h.xw b o
   obtain⟨y,F⟩:=O b (by rw[D];exact C)
   exact h.hid l b y v F o
 cases R:ρ l with
 |none=>
  refine⟨ρ,Ext.refl ρ,rfl,G ρ A (Ext.refl ρ) ?_ h.qY zA⟩
  have:=h.dF l
  rw[R]at this⊢
  cases o:H.get l with
  |cells cs a=>rw[o]at this;exact aJ.od this zA
  |rows n e f a=>rw[o]at this;exact⟨this.1,aJ.od this.2 zA⟩
  |str s a=>rw[o]at this;exact aJ.od (cs:=byteCells s) this zA
  |_=>rw[o]at m;cases m
 |some x=>
  obtain⟨r,N⟩:=x
  have ag:=h.pV l r N E R
  have j:=h.dF l
  rw[R]at j
  have J:∃vs el fr,w.heap[r]? =a_ (.cells (List.toArray vs) el fr):=by
   cases o:H.get l with
   |cells cs a=>
    rw[o]at j
    rcases j with⟨_,W⟩|⟨b,y,vs,rest,el,fr,u,F,_⟩
    all_goals grind
   |rows n e f a=>
    rw[o]at j
    rcases j.2 with⟨_,W⟩|⟨b,y,vs,rest,el,fr,u,F,_⟩
    all_goals grind
   |str s a=>
    rw[o]at j
    rcases(j:aJ _ _ _ _ _)with⟨_,W⟩|⟨b,y,vs,rest,el,fr,u,F,_⟩
    all_goals grind
   |_=>rw[o]at m;cases m
  obtain⟨K,ap,a6,P⟩:=J
  let ρ':Env:=⟨ρ.pl,λb=>if b=r then a_ K else ρ.fz b⟩
  have U:ρ'.fz r=a_ K:=by show(if r=r then a_ K else _)=_;rw[if_pos A]
  have Q:∀b,b≠r->ρ'.fz b=ρ.fz b:=Y
  have hx:Ext ρ ρ':=⟨λ_ _ e=>e,λb vs e=>by
   grind⟩
  refine⟨ρ',hx,rfl,G ρ' A hx ?_ ?_ ?_⟩
  ·have V:∀S y (vs:List Value),a_ (r,N)=a_ (S,y)->(∃el fr,w.heap[S]? =a_ (.cells vs.toArray el fr))->ρ'.fz S=a_ vs:=by
    intro S y vs e hh
    cases e
    obtain⟨el,fr,X⟩:=hh
    rw[P]at X
    cases X
    exact U
   rw[R]
   cases o:H.get l with
   |cells cs a=>rw[o]at j;exact aJ.od (aJ.ext hx j) V
   |rows n e f a=>rw[o]at j;exact⟨j.1,aJ.od (aJ.ext hx j.2) V⟩
   |str s a=>rw[o]at j;exact aJ.od (cs:=byteCells s) (aJ.ext hx j) V
   |_=>rw[o]at m;cases m
  ·intro b vs e
   by_cases o:b=r
   grind
   ·rw[Q b o]at e;exact h.qY b vs e
  grind
mutual
def AV.free:AV->Bool
 | .ptr _ _ _ _=>false
 | .slice _ _ _ _ _ _=>false
 | .own _ _ _=>false
 | .map (a_ _)=>false
 | .yield _=>false
 | .fn _ a b=>bt.free a&&bt.free b
 | .iface _ a=>a.free
 | .agg cs=>bt.free cs
 | .bK cs=>bt.free cs
 |_=>true
def bt.free:List AV->Bool
 |[]=>true
 |a::as=>a.free&&bt.free as
end
mutual
theorem VR.free{ρ:Env}:∀(a:AV)(v:Value),a.free=true->VR ρ a v->VR ρ.bare a v
 | .ptr _ _ _ _,_,h,_=>zE
 | .slice _ _ _ _ _ _,_,h,_=>zE
 | .own _ _ _,_,h,_=>zE
 | .map (a_ _),_,h,_=>zE
 | .yield _,_,h,_=>zE
 | .fn f a b,v,h,k=>by
  simp only[AV.free,bf]at h
  simp only[VR]at k⊢
  obtain⟨us,vs,e,r,s⟩:=k
  exact⟨us,vs,e,aU.free a us h.1 r,aU.free b vs h.2 s⟩
 | .iface t a,v,h,k=>by
  simp only[AV.free]at h
  simp only[VR]at k⊢
  obtain⟨u,e,r⟩:=k
  exact⟨u,e,VR.free a u h r⟩
 | .agg cs,v,h,k=>by
  simp only[AV.free]at h
  simp only[VR]at k⊢
  obtain⟨vs,e,r⟩:=k
  exact⟨vs,e,aU.free cs vs h r⟩
 | .bK cs,v,h,k=>by
  simp only[AV.free]at h
  simp only[VR]at k⊢
  obtain⟨vs,e,r⟩:=k
  exact⟨vs,e,aU.free cs vs h r⟩
 | .fc cs j,v,_,hk=>by
  simp only[VR]at hk⊢
  exact hk
 | .ab len e f,v,_,hk=>by
  simp only[VR]at hk⊢
  exact hk
 | .bool _,_,_,k=>zF
 | .int _ _,_,_,k=>zF
 | .str _,_,_,k=>zF
 | .nilPtr,_,_,k=>zF
 | .aw,_,_,k=>zF
 | .map n_,_,_,k=>zF
 | .aB,_,_,k=>zF
 | .addr _ _,_,_,k=>zF
 | .nilIface,_,_,k=>zF
 | .any,_,_,k=>zB
theorem aU.free{ρ:Env}:∀(as:List AV)(vs:List Value),bt.free as=true->aU ρ as vs->aU ρ.bare as vs
 |[],_,_,k=>by simpa only[aU]using k
 |a::as,vs,h,k=>by
  simp only[bt.free,bf]at h
  simp only[aU]at k⊢
  obtain⟨u,us,e,r,s⟩:=k
  exact⟨u,us,e,VR.free a u h.1 r,aU.free as us h.2 s⟩
end
def l6(H:AH)(l:Nat):Option AH :=
 match H.get l with
 | .cells _ .ro=>a_ H
 | .rows _ _ _ .ro=>a_ H
 | .str _ .ro=>a_ H
 | .cells _ (.ex _)=>n_
 | .rows _ _ _ (.ex _)=>n_
 | .str _ (.ex _)=>n_
 | .cells cs _=>a_ (H.set l (.cells cs .ro))
 | .rows n e f _=>a_ (H.set l (.rows n e f .ro))
 | .str s _=>a_ (H.set l (.str s .ro))
 |_=>n_
theorem Ad{H H' l}(h:l6 H l=a_ H'){c ρ w}(j:Rel c ρ H w):(H'.get l=(H.get l).od)/\((H.get l).vV=true)/\H'.n=H.n/\∃ρ',Ext ρ ρ'/\ρ'.pl=ρ.pl/\Rel c ρ' H' w:=by
 have key:∀b,(H.get l).vV=true->(H.get l).rw=true->b=(H.get l).od->H'=H.set l b->(H'.get l=(H.get l).od)/\((H.get l).vV=true)/\H'.n=H.n/\∃ρ',Ext ρ ρ'/\ρ'.pl=ρ.pl/\Rel c ρ' H' w:=by
  intro b k o p q
  subst p q
  obtain⟨ρ',r,t,u⟩:=j.freeze k o
  exact⟨j_ _ _ _,k,rfl,ρ',r,t,u⟩
 unfold l6 at h
 split at h
 ·rename_i cs d;cases h;rw[d];exact⟨rfl,rfl,rfl,ρ,Ext.refl ρ,rfl,j⟩
 ·rename_i n e f d;cases h;rw[d];exact⟨rfl,rfl,rfl,ρ,Ext.refl ρ,rfl,j⟩
 ·rename_i s d;cases h;rw[d];exact⟨rfl,rfl,rfl,ρ,Ext.refl ρ,rfl,j⟩
 ·cases h
 ·cases h
 ·cases h
 ·rename_i cs a g i d
  cases h
  refine key _ (by rw[d];rfl) ?_ (by rw[d];rfl) A
  rw[d]
  cases a with
  |ro=>exact absurd A g
  |ex m=>grind
  |_=>rfl
 ·rename_i n e f a g i d
  cases h
  refine key _ (by rw[d];rfl) ?_ (by rw[d];rfl) A
  rw[d]
  cases a with
  |ro=>exact absurd A g
  |ex m=>grind
  |_=>rfl
 ·rename_i s a g i d
  cases h
  refine key _ (by rw[d];rfl) ?_ (by rw[d];rfl) A
  rw[d]
  cases a with
  |ro=>exact absurd A g
  |ex m=>grind
  |_=>rfl
 ·cases h
theorem aJ.PC{ρ:Env}{w:World}{o:Option (Nat×Nat)}{cs:List AV}{a:Access}(h:aJ ρ w o cs a):∃vs,aU ρ cs vs:=by
 rcases h with⟨rfl,_⟩|⟨b,N,vs,rest,el,fr,h1,d,f,c,_⟩
 ·exact⟨[],zH⟩
 ·exact⟨vs,c⟩
theorem aJ.fz{ρ:Env}{w:World}{b N:Nat}{cs:List AV}(h:aJ ρ w (a_ (b,N)) cs .ro):∃vs rest,aU ρ cs vs/\(∀v∈vs,v.oneCell'=true)/\ρ.fz b=a_ (vs++rest):=by
 rcases h with⟨_,h⟩|⟨b,N,vs,rest,el,fr,h1,a,c,d,f,i,j⟩
 all_goals grind
theorem rq{α:Type}{l:List α}{o e}:∀{n},o+n*e<=l.length->(e_ n).flatMap (λi=>(l.drop (o+i*e)).take e)=(l.drop o).take (n*e)
 |0,_=>zA
 |n+1,h=>by
  rw[o_]at h
  rw[List.range_succ,List.flatMap_append,rq (n:=n) O,o_,List.take_add,List.drop_drop]
  simp
theorem qR.sub{ρ b vs rest}(h:ρ.fz b=a_ (vs++rest))(a:∀v∈vs,v.oneCell'=true)(o m)(hl:o<=vs.length):qR ρ b o ((vs.drop o).take m):=by
 refine⟨λv c=>Y,vs.take o,(vs.drop o).drop m++rest,by simp;omega,?_⟩
 rw[h,m_,<-m_ ((vs.drop o).take m),z_,<-m_,z_]
theorem qR.all{ρ:Env}{b:Nat}{vs rest:List Value}(h:ρ.fz b=a_ (vs++rest))(a:∀v∈vs,v.oneCell'=true):qR ρ b 0 vs:=⟨a,[],rest,rfl,by simpa using h⟩
theorem qR.rows{ρ:Env}{b:Nat}{vs rest:List Value}(h:ρ.fz b=a_ (vs++rest))(a:∀v∈vs,v.oneCell'=true){o e len:Nat}(hl:o+len*e<=vs.length):
  qR ρ b o ((e_ len).flatMap λi=>(vs.drop (o+i*e)).take e)/\∀i,i<len->((vs.drop (o+i*e)).take e).length=e:=by
 refine⟨by rw[rq hl];exact qR.sub h a o _ O,λi hi=>?_⟩
 have:i*e+e<=len*e:=by
  have:=A_ e (O:i+1<=len)
  rwa[o_]at this
 simp;omega
theorem aJ.K7{ρ w b N n e f}(d:∀i,i<n->(f i).length=e)(h:aJ ρ w (a_ (b,N)) (rowsOf n f) .ro)(a:∀i,i<n->bt.free (f i)=true):
  ∃c,qR ρ b 0 ((e_ n).flatMap c)/\∀i,i<n->(c i).length=e/\aU ρ.bare (f i) (c i):=by
 obtain⟨vs,rest,j,l,m⟩:=h.fz
 have hl:vs.length=n*e:=by rw[<-j.length_eq];exact bE d
 obtain⟨k1,k2⟩:=qR.rows m l (o:=0) (e:=e) (len:=n) O
 refine⟨_,k1,λi hi=>⟨k2 i hi,aU.free _ _ (a i hi) ?_⟩⟩
 obtain⟨t,ht⟩:=lL d hi
 have:=(j.drop (i*e)).take e
 grind
section
variable {R:Type} (X:RI R)
mutual
def qC:Nat->AV->AH->(AV->AH->R)->R
 |0,_,_,_=>X.fail
 |d+1,a,H,K=>match a with
  | .ptr l k e j=>match l6 H l with
   |some H1=>match H1.get l with
    | .cells cs _=>jK d cs H1 λc H2=>K (.fc c (k*e+j)) H2
    | .rows n g f _=>X.ak (((e_ n).all λi=>bt.free (f i))&&decide (k<n)) (if e=g then K (.fc (f k) j) H1 else X.fail)
    |_=>X.fail
   |none=>X.fail
  | .slice l base k len _ e=>match l6 H l with
   |some H1=>match H1.get l with
    | .cells cs _=>jK d cs H1 λc H2=>X.ak (decide (base+k*e+len*e<=cs.length)) (K (.ab len e (λi=>(c.drop (base+k*e+i*e)).take e)) H2)
    | .rows n g f _=>if e=g/\base=0 then X.ak (((e_ n).all λi=>bt.free (f i))&&decide (k+len<=n)) (K (.ab len e (λi=>f (k+i))) H1)else X.fail
    | .str s _=>if e=1/\base=0 then X.ak (decide (k+len<=s.length)) (K (.ab len 1 (λi=>gx s (k+i))) H1)else X.fail
    |_=>X.fail
   |none=>X.fail
  | .own l len e=>match l6 H l with
   |some H1=>match H1.get l with
    | .cells cs _=>jK d cs H1 λc H2=>X.ak (decide (len*e<=cs.length)) (K (.ab len e (λi=>(c.drop (i*e)).take e)) H2)
    | .rows n g f _=>if e=g then X.ak (((e_ n).all λi=>bt.free (f i))&&decide (len<=n)) (K (.ab len e f) H1)else X.fail
    | .str s _=>if e=1 then X.ak (decide (len<=s.length)) (K (.ab len 1 (gx s)) H1)else X.fail
    |_=>X.fail
   |none=>X.fail
  | .map (a_ _)=>X.fail
  | .yield _=>X.fail
  | .fn f a b=>jK d a H λa' H1=>jK d b H1 λm H2=>K (.fn f a' m) H2
  | .iface t a=>qC d a H λa' H1=>K (.iface t a') H1
  | .agg cs=>jK d cs H λc H1=>K (.agg c) H1
  | .bK cs=>jK d cs H λc H1=>K (.bK c) H1
  |a=>K a H
def jK:Nat->List AV->AH->(List AV->AH->R)->R
 |0,_,_,_=>X.fail
 |d+1,as,H,K=>match as with
  |[]=>K [] H
  |a::as=>qC d a H λa' H1=>jK d as H1 λh H2=>K (a'::h) H2
end
end
section
variable {R:Type} {X:RI R} {sem:R->Prop} (hX:X.Ok sem)
def j4(a:AV)(H:AH)(a':AV)(H':AH):Prop:=H'.n=H.n/\∀c ρ w v,Rel c ρ H w->VR ρ a v->∃ρ',Ext ρ ρ'/\Rel c ρ' H' w/\VR ρ'.bare a' v
def sM(a:List AV)(H:AH)(a':List AV)(H':AH):Prop:=H'.n=H.n/\∀c ρ w v,Rel c ρ H w->aU ρ a v->∃ρ',Ext ρ ρ'/\Rel c ρ' H' w/\aU ρ'.bare a' v
theorem Ext.bb{a b}(h:Ext a b):Ext a.bare b.bare:=h.bare
include hX in
mutual
theorem lm:∀(d:Nat)(a:AV)(H:AH)(K:AV->AH->R),sem (qC X d a H K)->∃a' H',sem (K a' H')/\j4 a H a' H'
 |0,a,H,K,h=>by simp only[qC]at h;exact zR
 |d+1,a,H,K,h=>by
  have same:∀a:AV,a.free=true->sem (K a H)->∃a' H',sem (K a' H')/\j4 a H a' H':=λa ha h=>
   ⟨a,H,h,rfl,λc ρ w v p g=>⟨ρ,Ext.refl ρ,p,VR.free a v ha g⟩⟩
  have G:∀{l:Nat}{H1:AH}{cs:List AV}{rw:Access}{K':List AV->AH->R},l6 H l=a_ H1->H1.get l= .cells cs rw->sem (jK X d cs H1 K')->
    ∃Q H2,sem (K' Q H2)/\H2.n=H.n/\∀c ρ w,Rel c ρ H w->∃ρ',Ext ρ ρ'/\Rel c ρ' H2 w/\∀b N,ρ l=a_ (b,N)->∃vs rest,aU ρ'.bare Q vs/\cs.length=vs.length/\(∀v∈vs,v.oneCell'=true)/\ρ'.fz b=a_ (vs++rest):=by
   intro l H1 cs rw K' q D F
   obtain⟨Q,H2,V,J,I⟩:=gC d cs H1 K' F
   refine⟨Q,H2,V,?_,λc ρ w p=>?_⟩
   ·unfold l6 at q
    split at q<;>cases q<;>exact J
   ·obtain⟨f1,f2,_,E,f3,f4,f5⟩:=Ad q p
    have W:rw= .ro:=by
     rw[D]at f1
     cases r:H.get l<;>rw[r]at f1 f2<;>simp[ai.od,ai.vV]at f1 f2
     exact f1.2
    subst W
    have r:=f5.dF l
    rw[D,f4]at r
    cases ho:ρ l with
    |none=>
     rw[ho]at r
     obtain⟨vs,ap⟩:=aJ.PC r
     obtain⟨S,g1,g2,g3⟩:=I c E w vs f5 ap
     exact⟨S,f3.trans g1,g2,λb N e=>zG⟩
    |some x=>
     obtain⟨b,N⟩:=x
     rw[ho]at r
     obtain⟨vs,rest,k1,k2,k3⟩:=aJ.fz r
     obtain⟨S,g1,g2,g3⟩:=I c E w vs f5 k1
     exact⟨S,f3.trans g1,g2,λb' N' e=>by cases e;exact⟨vs,rest,g3,k1.length_eq,k2,g1.fz _ _ k3⟩⟩
  have T:∀{l:Nat}{H1:AH}{n e:Nat}{f:Nat->List AV}{rw:Access},l6 H l=a_ H1->H1.get l= .rows n e f rw->((e_ n).all λi=>bt.free (f i))=true->
    H1.n=H.n/\∀c ρ w,Rel c ρ H w->∃ρ',Ext ρ ρ'/\Rel c ρ' H1 w/\∀b N,ρ l=a_ (b,N)->∃C,qR ρ' b 0 ((e_ n).flatMap C)/\∀i,i<n->(C i).length=e/\aU ρ'.bare (f i) (C i):=by
   intro l H1 n e f rw q D F
   refine⟨?_,λc ρ w p=>?_⟩
   ·unfold l6 at q
    split at q<;>cases q<;>rfl
   ·obtain⟨f1,f2,_,E,f3,f4,f5⟩:=Ad q p
    have W:rw= .ro:=by
     rw[D]at f1
     cases r:H.get l<;>rw[r]at f1 f2<;>simp[ai.od,ai.vV]at f1 f2
     exact f1.2.2.2
    subst W
    refine⟨E,f3,f5,λb N ho=>?_⟩
    have r:=f5.dF l
    rw[D,f4,ho]at r
    exact aJ.K7 r.1 r.2 λi hi=>List.all_eq_true.1 F i (List.mem_range.2 hi)
  have ad:∀{l:Nat}{H1:AH}{s:List UInt8}{rw:Access},l6 H l=a_ H1->H1.get l= .str s rw->
    H1.n=H.n/\∀c ρ w,Rel c ρ H w->∃ρ',Ext ρ ρ'/\Rel c ρ' H1 w/\∀b N,ρ l=a_ (b,N)->∃C,qR ρ' b 0 ((e_ s.length).flatMap C)/\∀i,i<s.length->(C i).length=1/\aU ρ'.bare (gx s i) (C i):=by
   intro l H1 s rw q D
   refine⟨?_,λc ρ w p=>?_⟩
   ·unfold l6 at q
    split at q<;>cases q<;>rfl
   ·obtain⟨f1,f2,_,E,f3,f4,f5⟩:=Ad q p
    have W:rw= .ro:=by
     rw[D]at f1
     cases r:H.get l<;>rw[r]at f1 f2<;>simp[ai.od,ai.vV]at f1 f2
     exact f1.2
    subst W
    refine⟨E,f3,f5,λb N ho=>?_⟩
    have r:=(f5.dF l).un
    rw[D,f4,ho]at r
    exact aJ.K7 (e:=1) r.1 r.2 λi hi=>rfl
  cases a with
  |ptr l k e j=>
   simp only[qC]at h
   split at h
   ·rename_i H1 q
    split at h
    ·rename_i cs rw D
     obtain⟨Q,H2,V,J,I⟩:=G q D h
     refine⟨_,H2,V,J,λc ρ w v p g=>?_⟩
     simp only[VR]at g
     obtain⟨b,N,r,rfl⟩:=g
     obtain⟨ρ',g1,g2,g3⟩:=I c ρ w p
     obtain⟨vs,rest,g4,L,g6,g7⟩:=g3 b N r
     refine⟨ρ',g1,g2,?_⟩
     simp only[VR]
     exact⟨b,0,vs,zA,qR.all (ρ:=ρ'.bare) g7 g6,g4⟩
    ·rename_i n e' f rw D
     obtain⟨F,U⟩:=hX.ak _ _ h
     simp only[bf,bn]at F
     split at U
     ·rename_i a6
      subst a6
      obtain⟨J,I⟩:=T q D F.1
      refine⟨_,H1,U,J,λc ρ w v p g=>?_⟩
      simp only[VR]at g
      obtain⟨b,N,r,rfl⟩:=g
      obtain⟨ρ',g1,g2,g3⟩:=I c ρ w p
      obtain⟨C,g4,L⟩:=g3 b N r
      refine⟨ρ',g1,g2,?_⟩
      simp only[VR]
      have:=g4.row (λi hi=>(L i hi).1) F.2
      simp only[c_]at this
      exact⟨b,k*e,C k,zA,this,(L k F.2).2⟩
     ·exact absurd U hX.fail
    ·exact zR
   ·exact zR
  |slice l base k len cap e=>
   simp only[qC]at h
   split at h
   ·rename_i H1 q
    split at h
    ·rename_i cs rw D
     obtain⟨Q,H2,V,J,I⟩:=G q D h
     obtain⟨ag,V⟩:=hX.ak _ _ V
     simp only[bn]at ag
     refine⟨_,H2,V,J,λc ρ w v p g=>?_⟩
     simp only[VR]at g
     obtain⟨b,N,Y,a,r,rfl,hl,P,_⟩:=g
     obtain⟨ρ',g1,g2,g3⟩:=I c ρ w p
     obtain⟨vs,rest,g4,L,g6,g7⟩:=g3 b N r
     refine⟨ρ',g1,g2,?_⟩
     simp only[VR]
     obtain⟨g8,g9⟩:=qR.rows (ρ:=ρ'.bare) g7 g6 (o:=base+k*e) (e:=e) (len:=len) O
     exact .inr ⟨b,base+k*e,Y,a,_,rfl,hl,λhp=>⟨(P O).1,g8,λi hi=>⟨g9 i hi,(g4.drop _).take _⟩⟩⟩
    ·rename_i n e' f rw D
     split at h
     ·rename_i hc
      obtain⟨rfl,rfl⟩:=hc
      obtain⟨F,U⟩:=hX.ak _ _ h
      simp only[bf,bn]at F
      obtain⟨J,I⟩:=T q D F.1
      refine⟨_,H1,U,J,λc ρ w v p g=>?_⟩
      simp only[VR]at g
      obtain⟨b,N,Y,a,r,rfl,hl,P,_⟩:=g
      obtain⟨ρ',g1,g2,g3⟩:=I c ρ w p
      obtain⟨C,g4,L⟩:=g3 b N r
      refine⟨ρ',g1,g2,?_⟩
      simp only[VR]
      have:=g4.part (λi hi=>(L i hi).1) F.2
      simp only[c_]at this
      refine .inr ⟨b,k*e,Y,a,λi=>C (k+i),rfl,hl,λhp=>⟨by rw[(P O).1,c_],this,λi hi=>L _ O⟩⟩
     ·exact zR
    ·rename_i s rw D
     split at h
     ·rename_i hc
      obtain⟨rfl,rfl⟩:=hc
      obtain⟨F,U⟩:=hX.ak _ _ h
      simp only[bn]at F
      obtain⟨J,I⟩:=ad q D
      refine⟨_,H1,U,J,λc ρ w v p g=>?_⟩
      simp only[VR]at g
      obtain⟨b,N,Y,a,r,rfl,hl,P,_⟩:=g
      obtain⟨ρ',g1,g2,g3⟩:=I c ρ w p
      obtain⟨C,g4,L⟩:=g3 b N r
      refine⟨ρ',g1,g2,?_⟩
      simp only[VR]
      have:=g4.part (λi hi=>(L i hi).1) F
      simp only[c_]at this
      refine .inr ⟨b,k*1,Y,a,λi=>C (k+i),rfl,hl,λhp=>⟨by rw[(P O).1,c_],this,λi hi=>L _ O⟩⟩
     ·exact zR
    ·exact zR
   ·exact zR
  |own l len e=>
   simp only[qC]at h
   split at h
   ·rename_i H1 q
    split at h
    ·rename_i cs rw D
     obtain⟨Q,H2,V,J,I⟩:=G q D h
     obtain⟨ag,V⟩:=hX.ak _ _ V
     simp only[bn]at ag
     refine⟨_,H2,V,J,λc ρ w v p g=>?_⟩
     simp only[VR]at g
     obtain⟨ρ',g1,g2,g3⟩:=I c ρ w p
     refine⟨ρ',g1,g2,?_⟩
     simp only[VR]
     rcases g with g|⟨b,N,Y,r,rfl,hl,P⟩
     ·exact .inl g
     ·obtain⟨vs,rest,g4,L,g6,g7⟩:=g3 b N r
      obtain⟨g8,g9⟩:=qR.rows (ρ:=ρ'.bare) g7 g6 (o:=0) (e:=e) (len:=len) O
      simp only[c_]at g8 g9
      exact .inr ⟨b,0,Y,_,_,rfl,hl,λhp=>⟨rfl,g8,λi hi=>⟨g9 i hi,(g4.drop _).take _⟩⟩⟩
    ·rename_i n e' f rw D
     split at h
     ·rename_i hc
      subst hc
      obtain⟨F,U⟩:=hX.ak _ _ h
      simp only[bf,bn]at F
      obtain⟨J,I⟩:=T q D F.1
      refine⟨_,H1,U,J,λc ρ w v p g=>?_⟩
      simp only[VR]at g
      obtain⟨ρ',g1,g2,g3⟩:=I c ρ w p
      refine⟨ρ',g1,g2,?_⟩
      simp only[VR]
      rcases g with g|⟨b,N,Y,r,rfl,hl,P⟩
      ·exact .inl g
      ·obtain⟨C,g4,L⟩:=g3 b N r
       have:=g4.part (λi hi=>(L i hi).1) (k:=0) (m:=len) O
       simp only[F_,G_,c_]at this
       exact .inr ⟨b,0,Y,_,C,rfl,hl,λhp=>⟨rfl,this,λi hi=>L i O⟩⟩
     ·exact zR
    ·rename_i s rw D
     split at h
     ·rename_i hc
      subst hc
      obtain⟨F,U⟩:=hX.ak _ _ h
      simp only[bn]at F
      obtain⟨J,I⟩:=ad q D
      refine⟨_,H1,U,J,λc ρ w v p g=>?_⟩
      simp only[VR]at g
      obtain⟨ρ',g1,g2,g3⟩:=I c ρ w p
      refine⟨ρ',g1,g2,?_⟩
      simp only[VR]
      rcases g with g|⟨b,N,Y,r,rfl,hl,P⟩
      ·exact .inl g
      ·obtain⟨C,g4,L⟩:=g3 b N r
       have:=g4.part (λi hi=>(L i hi).1) (k:=0) (m:=len) O
       simp only[F_,G_,c_]at this
       exact .inr ⟨b,0,Y,_,C,rfl,hl,λhp=>⟨rfl,this,λi hi=>L i O⟩⟩
     ·exact zR
    ·exact zR
   ·exact zR
  |map l=>
   cases l with
   |none=>simp only[qC]at h;exact same _ A h
   |some l=>simp only[qC]at h;exact zR
  |yield l=>simp only[qC]at h;exact zR
  |fn f x y=>
   simp only[qC]at h
   obtain⟨x',H1,q,D,F⟩:=gC d x H _ h
   obtain⟨y',H2,U,h5,h6⟩:=gC d y H1 _ q
   refine⟨_,H2,U,h5.trans D,λc ρ w v p g=>?_⟩
   simp only[VR]at g
   obtain⟨us,vs,rfl,k1,k2⟩:=g
   obtain⟨E,a1,a2,Z⟩:=F c ρ w us p k1
   obtain⟨S,b1,b2,b3⟩:=h6 c E w vs a2 (aU.ext a1 _ _ k2)
   refine⟨S,a1.trans b1,b2,?_⟩
   simp only[VR]
   exact⟨us,vs,rfl,aU.ext b1.bare _ _ Z,b3⟩
  |iface t x=>
   simp only[qC]at h
   obtain⟨x',H1,q,D,F⟩:=lm d x H _ h
   refine⟨_,H1,q,D,λc ρ w v p g=>?_⟩
   simp only[VR]at g
   obtain⟨u,rfl,k1⟩:=g
   obtain⟨E,a1,a2,Z⟩:=F c ρ w u p k1
   refine⟨E,a1,a2,?_⟩
   simp only[VR]
   exact⟨u,rfl,Z⟩
  |agg cs=>
   simp only[qC]at h
   obtain⟨x',H1,q,D,F⟩:=gC d cs H _ h
   refine⟨_,H1,q,D,λc ρ w v p g=>?_⟩
   simp only[VR]at g
   obtain⟨us,rfl,k1⟩:=g
   obtain⟨E,a1,a2,Z⟩:=F c ρ w us p k1
   refine⟨E,a1,a2,?_⟩
   simp only[VR]
   exact⟨us,rfl,Z⟩
  |bK cs=>
   simp only[qC]at h
   obtain⟨x',H1,q,D,F⟩:=gC d cs H _ h
   refine⟨_,H1,q,D,λc ρ w v p g=>?_⟩
   simp only[VR]at g
   obtain⟨us,rfl,k1⟩:=g
   obtain⟨E,a1,a2,Z⟩:=F c ρ w us p k1
   refine⟨E,a1,a2,?_⟩
   simp only[VR]
   exact⟨us,rfl,Z⟩
  |_=>simp only[qC]at h;exact same _ A h
theorem gC:∀(d:Nat)(a:List AV)(H:AH)(K:List AV->AH->R),sem (jK X d a H K)->∃a' H',sem (K a' H')/\sM a H a' H'
 |0,a,H,K,h=>by simp only[jK]at h;exact zR
 |d+1,[],H,K,h=>by
  simp only[jK]at h
  exact⟨[],H,h,rfl,λc ρ w v p g=>⟨ρ,Ext.refl ρ,p,by simpa only[aU]using g⟩⟩
 |d+1,a::as,H,K,h=>by
  simp only[jK]at h
  obtain⟨x,H1,q,D,F⟩:=lm d a H _ h
  obtain⟨y,H2,U,h5,h6⟩:=gC d as H1 _ q
  refine⟨_,H2,U,h5.trans D,λc ρ w v p g=>?_⟩
  simp only[aU]at g
  obtain⟨u,us,rfl,k1,k2⟩:=g
  obtain⟨E,a1,a2,Z⟩:=F c ρ w u p k1
  obtain⟨S,b1,b2,b3⟩:=h6 c E w us a2 (aU.ext a1 _ _ k2)
  exact⟨S,a1.trans b1,b2,aU.aL.2 ⟨VR.ext b1.bare _ _ Z,b3⟩⟩
end
end
theorem af.nI{P:Program}{I:ba}{f:FuncId}{args a:List AV}{H H':AH}{o:CO}(d:sM args H a H')(h:af P I f a H' o):af P I f args H o:=by
 intro c ρ w vs hG i j
 obtain⟨b,l,m,q⟩:=d.2 c ρ w vs j i
 have post:∀e w',o.post c b e w'->o.post c ρ e w':=λe w' s=>CO.gO l s
 rcases h c b w vs hG (aU.ext (Ext.qU b) _ _ q) m with⟨k1,k2⟩|⟨v,w',k1,k2⟩
 ·exact .inl ⟨k1,k2.mono post⟩
 grind
theorem af.vW{P:Program}{I:ba}{f:FuncId}{args:List AV}{H H1 H2:AH}{a a':AV}(h:af P I f args H (.ret a H1))(j:j4 a H1 a' H2):af P I f args H (.ret a' H2):=by
 intro c ρ w vs hG l m
 have post:∀e w',(CO.ret a H1).post c ρ e w'->(CO.ret a' H2).post c ρ e w':=by
  intro e w' d
  cases e with
  |returned v=>
   obtain⟨i,k1,k2,o⟩:=d
   obtain⟨b,g1,g2,g3⟩:=j.2 c i w' v k2 o
   exact⟨b,k1.trans g1,g2,VR.ext (Ext.qU b) _ _ g3⟩
  |panicked q=>exact d.elim
  |outgrown=>exact d.elim
 rcases h c ρ w vs hG l m with⟨k1,k2⟩|⟨v,w',k1,k2⟩
 ·exact .inl ⟨k1,k2.mono post⟩
 grind
def fk(n0:Nat)(Q:AV->Prop):AV->AH->Prop:=λa H1=>qC RI.jY 100000 a H1 λa' H2=>B (p_ n0 H2.n) (Q a')
theorem af.VB{P I}(hI:I.Ok P)(ks:List (aC P I)){i}(b:eR P I id i)(fuel){f args a'}
  (c:∀σ,AV.le σ a' a') (h:jE ks i fuel f args (h_ I.G) (fk I.G λa=>a=a') (λ_ _=>False)):af P I f args (h_ I.G) (.ret a' (h_ I.G)):=by
 obtain⟨o,j,l⟩:=fJ hI ks b fuel f args (h_ I.G) _ _ h
 cases o with
 |ret a H1=>
  obtain⟨x,H2,k1,k2⟩:=lm RI.dJ _ _ _ _ j
  cases d:p_ I.G H2.n with
  |false=>
   have k1:B (p_ I.G H2.n) (x=a'):=k1
   rw[d]at k1;exact k1.elim
  |true=>
   have k1:B (p_ I.G H2.n) (x=a'):=k1
   rw[d]at k1
   have k1:x=a':=k1
   subst k1
   exact(l.vW k2).le (ky.of [] (im.of (by rfl) A A A d (gS.2 λ_ _=>trivial)) (c _))
 |qt a H1=>exact j.elim
def aC.pure{P:Program}{I:ba}(f:FuncId)(spec:{R:Type}->RI R->List AV->(AV->R)->R)
  (ok:∀{R:Type}(X:RI R)(sem:R->Prop),X.Ok sem->∀args c,sem (spec X args c)->∃a,sem (c a)/\(∀σ,a.bD σ=a)/\(∀σ,bt.bD σ args=args)/\af P I f args (h_ I.G) (.ret a (h_ I.G))):aC P I where
 f:=f
 spec X args H c _:=jK X 100000 args H λb H'=>spec X b λa=>c a H'
 ok X sem hX args H c kp h:=by
  obtain⟨b,H',d,i⟩:=gC hX _ _ _ _ h
  obtain⟨a,k1,k2,j,l⟩:=ok X sem hX _ _ d
  exact⟨.ret a H',k1,(l.pure j k2 H').nI i⟩
end
end
end Go.Sx
