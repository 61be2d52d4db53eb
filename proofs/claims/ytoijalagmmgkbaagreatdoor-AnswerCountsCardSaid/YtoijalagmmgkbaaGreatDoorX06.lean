/- The proof of a statement of the seat, part 6. -/
import Derived.Test.YtoijalagmmgkbaaGreatDoorX05
set_option linter.all false
set_option linter.defProp false
set_option maxRecDepth 1000000
namespace Go.Sx
open Go
open _root_.Array renaming getD_eq_getD_getElem?->M,getElem?_eq_getElem->z,getElem?_setIfInBounds->e_,getElem?_eq_none->p_,replicate->u_,ext'->y_
open Option renaming some->a_,none->w_
open Decidable renaming decide->b_
open Bool renaming eq_false_iff->c_
open List renaming range->d_,mem_cons_of_mem->f_,mem_cons_self->k_,getElem?_cons_zero->o_
open Classical renaming byContradiction->g_
open AH renaming get_set_same->h_,bk->x_,bH->A_
open Nat renaming beq->i_,strongRecOn->l_,blt->m_,blt_eq->n_,le_trans->q_,lt_or_ge->r_,lt_of_lt_of_le->s_,ble->t_,le_of_not_lt->v_,zero_le->z_
open Function renaming comp_def->j_
noncomputable section
mutual
def AV.bD(σ:Nat->Nat):AV->AV
 | .ptr l k e j=> .ptr (σ l) k e j
 | .slice l b k len cap e=> .slice (σ l) b k len cap e
 | .own l len e=> .own (σ l) len e
 | .map (a_ l)=> .map (a_ (σ l))
 | .fn f a b=> .fn f (bt.bD σ a) (bt.bD σ b)
 | .yield l=> .yield (σ l)
 | .iface t a=> .iface t (a.bD σ)
 | .agg cs=> .agg (bt.bD σ cs)
 | .bK cs=> .bK (bt.bD σ cs)
 | .bool b=> .bool b
 | .int k n=> .int k n
 | .str s=> .str s
 | .nilPtr=> .nilPtr
 | .aw=> .aw
 | .map w_=> .map w_
 | .aB=> .aB
 | .nilIface=> .nilIface
 | .any=> .any
 | .fc cs j=> .fc cs j
 | .ab len e f=> .ab len e f
 | .addr b j=> .addr b j
def bt.bD(σ:Nat->Nat):List AV->List AV
 |[]=>[]
 |a::as=>a.bD σ::bt.bD σ as
end
structure uy (σ:Nat->Nat) (ρ ρ':Env):Prop where
 Pa:∀l x,ρ l=a_ x->ρ' (σ l)=a_ x
 fz:∀b vs,ρ.fz b=a_ vs->ρ'.fz b=a_ vs
instance {σ:Nat->Nat}{ρ ρ':Env}:CoeFun (uy σ ρ ρ') (λ_=> ∀l x,ρ l=a_ x->ρ' (σ l)=a_ x):=⟨uy.Pa⟩
def uy.bare{σ ρ ρ'}(h:uy σ ρ ρ'):Ext ρ.bare ρ'.bare:=⟨λ_ _ e=>zG,h.fz⟩
mutual
def VR.bD{σ:Nat->Nat}{ρ ρ':Env}(h:uy σ ρ ρ'):∀(a:AV)(v:Value),VR ρ a v->VR ρ' (a.bD σ) v
 | .bool _,_,k=>zD
 | .int _ _,_,k=>zD
 | .str _,_,k=>zD
 | .nilPtr,_,k=>zD
 | .ptr l _ _ _,v,k=>by
  simp only[VR,AV.bD]at k⊢
  obtain⟨b,N,e,r⟩:=k
  exact⟨b,N,h _ _ e,r⟩
 | .slice l _ _ _ _ _,v,k=>by
  simp only[VR,AV.bD]at k⊢
  obtain⟨b,N,c,a,e,r⟩:=k
  exact⟨b,N,c,a,h _ _ e,r⟩
 | .aw,_,k=>zD
 | .own l len e,v,k=>by
  simp only[VR,AV.bD]at k⊢
  rcases k with k|⟨b,N,c,e,r⟩
  ·exact .inl k
  ·exact .inr ⟨b,N,c,h _ _ e,r⟩
 | .map w_,_,k=>zD
 | .map (a_ l),v,k=>by
  simp only[VR,AV.bD]at k⊢
  obtain⟨b,N,e,r⟩:=k
  exact⟨b,N,h _ _ e,r⟩
 | .fn f first m,v,k=>by
  simp only[VR,AV.bD]at k⊢
  obtain⟨us,vs,e,r,s⟩:=k
  exact⟨us,vs,e,aU.bD h first us r,aU.bD h m vs s⟩
 | .yield l,v,k=>by
  simp only[VR,AV.bD]at k⊢
  obtain⟨b,N,e,r⟩:=k
  exact⟨b,N,h _ _ e,r⟩
 | .aB,_,k=>zD
 | .addr _ _,_,k=>zD
 | .nilIface,_,k=>zD
 | .iface t a,v,k=>by
  simp only[VR,AV.bD]at k⊢
  obtain⟨u,e,r⟩:=k
  exact⟨u,e,VR.bD h a u r⟩
 | .agg cs,v,k=>by
  simp only[VR,AV.bD]at k⊢
  obtain⟨vs,e,r⟩:=k
  exact⟨vs,e,aU.bD h cs vs r⟩
 | .bK cs,v,k=>by
  simp only[VR,AV.bD]at k⊢
  obtain⟨vs,e,r⟩:=k
  exact⟨vs,e,aU.bD h cs vs r⟩
 | .any,_,_=>by simp only[VR,AV.bD]
 | .fc cs j,v,hk=>by
  simp only[VR,AV.bD]at hk⊢
  obtain⟨b,q,vs,o,w,d⟩:=hk
  exact⟨b,q,vs,o,w.mono h.fz,aU.ext h.bare _ _ d⟩
 | .ab len e f,v,hk=>by
  simp only[VR,AV.bD]at hk⊢
  rcases hk with hk|⟨b,q,c,a,y,o,w,d⟩
  ·exact .inl hk
  ·exact .inr ⟨b,q,c,a,y,o,w,λhl=>⟨(d hl).1,(d hl).2.1.mono h.fz,λi hi=>⟨((d hl).2.2 i hi).1,aU.ext h.bare _ _ ((d hl).2.2 i hi).2⟩⟩⟩
def aU.bD{σ:Nat->Nat}{ρ ρ':Env}(h:uy σ ρ ρ'):∀(as:List AV)(vs:List Value),aU ρ as vs->aU ρ' (bt.bD σ as) vs
 |[],_,k=>by simpa only[aU,bt.bD]using k
 |a::as,vs,k=>by
  simp only[aU,bt.bD]at k⊢
  obtain⟨u,us,e,r,s⟩:=k
  exact⟨u,us,e,VR.bD h a u r,aU.bD h as us s⟩
end
def bt.l5(σ):∀as,bt.bD σ as=as.map (AV.bD σ)
 |[]=>by simp[bt.bD]
 |a::as=>by simp[bt.bD,bt.l5 σ as]
def Tr.map{α a:Type}(f:α->a):Tr α->Tr a
 | .e=> .e
 | .n l v r=> .n (l.map f) (match v with|some x=>a_ (f x)|none=>w_) (r.map f)
def Tr.get_map{α a}(f:α->a):∀(t:Tr α)(i),(t.map f).get i=(t.get i).map f
 | .e,i=>rfl
 | .n l v r,i=>by
  simp only[Tr.map,Tr.get]
  cases i_ i 0
  ·cases i_ (i%2) 1
   ·simp only[cond_false];exact Tr.get_map f r _
   ·simp only[cond_true,cond_false];exact Tr.get_map f l _
  ·cases v<;>rfl
def ai.bD(σ:Nat->Nat):ai->ai
 | .cells cs rw=> .cells (bt.bD σ cs) rw
 | .rows n e f rw=> .rows n e (λi=>bt.bD σ (f i)) rw
 | .str s rw=> .str s rw
 | .map es=> .map (es.map λx=>(x.1.bD σ,x.2.bD σ))
 | .loop a b t nt c as d df=> .loop a b (t.map (AV.bD σ)) nt c as d (σ df)
 | .tE=> .tE
 | .iter l=> .iter (σ l)
 | .iy n K=> .iy n K
 | .dX l since S=> .dX (σ l) since S
 | .cT n K Q foc=> .cT n K (λi=>(Q i).bD σ) (foc.map λx=>(x.1,x.2.bD σ))
 | .dead=> .dead
def qu(σ)(es):dL (es.map λx=>(x.1.bD σ,x.2.bD σ))=dL es:=by
 cases es with
 |nil=>rfl
 |cons e es=>
  obtain⟨a,b⟩:=e
  cases a<;>first|rfl|(rename_i x;cases x<;>rfl)
def qv(σ)(es):gK (es.map λx=>(x.1.bD σ,x.2.bD σ))=(gK es).map λx=>(x.1.bD σ,x.2.bD σ):=by
 cases es with
 |nil=>rfl
 |cons e es=>
  obtain⟨a,b⟩:=e
  cases a<;>first|rfl|(rename_i x;cases x<;>rfl)
def ai.qw(σ)(b:ai):(b.bD σ).rw=b.rw:=by
 cases b with
 |map es=>show(!dL (es.map λx=>(x.1.bD σ,x.2.bD σ)))=!dL es;rw[qu]
 |_=>rfl
def ai.KP{σ}{b:ai}:b.bD σ= .dead↔b= .dead:=by cases b<;>simp[ai.bD]
def aJ.bD{σ:Nat->Nat}{ρ ρ':Env}(h:uy σ ρ ρ'){w:World}{o:Option (Nat×Nat)}{cs:List AV}{rw:Access}(k:aJ ρ w o cs rw):aJ ρ' w o (bt.bD σ cs) rw:=by
 rcases k with⟨rfl,k⟩|⟨b,N,vs,rest,el,fr,h1,c,d,f,a⟩
 ·exact .inl ⟨by simp[bt.bD],k⟩
 ·exact .inr ⟨b,N,vs,rest,el,fr,h1,c,d,aU.bD h _ _ f,a.1,a.2.1,λe=>h.fz _ _ (a.2.2 e)⟩
def pZ(σ)(s):bt.bD σ (byteCells s)=byteCells s:=by
 rw[bt.l5];simp[byteCells,AV.bD,j_]
def bp.bD{σ:Nat->Nat}{ρ ρ':Env}(h:uy σ ρ ρ'){w:World}{o:Option (Nat×Nat)}{b:ai}(k:bp ρ w o b):bp ρ' w o (b.bD σ):=by
 cases b with
 |cells cs rw=>exact aJ.bD h k
 |rows n e f rw=>
  refine⟨λi hi=>by simp only[bt.l5,List.length_map];exact k.1 i hi,?_⟩
  have:=aJ.bD h k.2
  have I:bt.bD σ (rowsOf n f)=rowsOf n (λi=>bt.bD σ (f i)):=by
   simp only[bt.l5,rowsOf,List.map_flatMap]
  grind
 |str s rw=>have:=aJ.bD h (cs:=byteCells s) k;rw[pZ]at this;exact this
 |map es=>
  obtain⟨b,N,ms,C,v,y,⟨E,q,D,F,G⟩,H⟩:=k
  refine⟨b,N,ms,C,v,y,⟨E,?_,?_,by rw[qu];exact F,G⟩,λe=>H (by simpa using e)⟩
  ·have:=aU.bD h _ _ q
   rw[qv]
   simpa [bt.l5,j_]using this
  ·have:=aU.bD h _ _ D
   rw[qv]
   simpa [bt.l5,j_]using this
 |loop J L t nt O as P df=>
  obtain⟨b,N,d,c,fn,vs,v,y,q,D⟩:=k
  refine⟨b,N,d,c,fn,vs,v,h _ _ y,⟨q.1,λi=>?_⟩,D⟩
  have:=VR.bD h _ _ (q.2 i)
  unfold cR at this⊢
  rw[Tr.get_map]
  cases ht:t.get i with
  |none=>simp[VR]
  |some a=>rw[ht]at this;simpa using this
 |tE=>exact k
 |iter l=>
  obtain⟨b,N,m,c,since,last,v,y,q⟩:=k
  exact⟨b,N,m,c,since,last,v,h _ _ y,q⟩
 |iy n K=>exact k
 |dX l since S=>
  obtain⟨b,N,m,c,v,y,q⟩:=k
  exact⟨b,N,m,c,v,h _ _ y,q⟩
 |cT n K Q foc=>
  obtain⟨b,N,u,v,y,q,D⟩:=k
  refine⟨b,N,u,v,y,λi hi=>VR.bD h _ _ (q i hi),λj a e=>?_⟩
  cases foc with
  |none=>cases e
  |some x=>cases e;exact⟨(D _ _ A).1,VR.bD h _ _ (D _ _ A).2⟩
 |dead=>trivial
def AH.blank(N:Nat):AH:={n:=N,t:=.e}
def AH.up(H:AH)(N:Nat):AH:={n:=N,t:=H.t}
def Rel.up{c ρ H w}(h:Rel c ρ H w){N}(a:H.n<=N):Rel c ρ (H.up N) w :=
 ⟨h.dF,h.sep,h.gL,h.gH,h.size,h.os,h.output,h.tape,λl hl=>h.top l (q_ a hl),h.fp,h.hid,λl hl=>⟨s_ (h.env l hl).1 a,(h.env l hl).2⟩,λl hl=>h.low l (q_ a hl),h.qY,h.pV,h.xw,h.qZ⟩
def fw.blank(c:fw)(ρ:Env)(H:AH)(w:World)(N:Nat):fw:=c.xN ρ (H.up N) w λ_=>True
def Rel.blank{c ρ H w}(h:Rel c ρ H w){N}(a:H.n<=N):Rel (c.blank ρ H w N) ρ (.blank N) w :=
 (h.up a).xN (HM:=.blank N) A λ_=> .inl ⟨trivial,rfl⟩
def Rel.Th{c ρ ρ' H H' w w'}(h:Rel c ρ H w){N}(f:H.n<=N)(d:Rel (c.blank ρ H w N) ρ' H' w')(hn:H'.n=N):Ext ρ ρ'/\Rel c ρ' H w':=by
 obtain⟨i,a⟩:=(h.up f).KH (H2:=H.up N) d hn.symm zA
 refine⟨i,⟨a.dF,a.sep,a.gL,a.gH,a.size,a.os,a.output,a.tape,λl hl=>?_,a.fp,a.hid,λl hl=>?_,h.low,a.qY,a.pV,a.xw,a.qZ⟩⟩
 ·by_cases b:l<N
  ·rw[(d.env l b).2];exact h.top l hl
  ·exact a.top l (v_ b)
 ·obtain⟨j,m⟩:=h.env l hl
  exact⟨j,(a.env l hl).2⟩
def kw(N ℓ:Nat)(i:Nat):Nat:=bif i_ i N then ℓ else i
def D7(N ℓ):kw N ℓ N=ℓ:=by simp[kw]
def KQ{N ℓ i}(h:i≠N):kw N ℓ i=i:=by
 have:i_ i N=false:=by rw[c_];intro e;exact ZD
 simp[kw,this]
def Rel.Ti{c:fw}{ρ ρ':Env}{H H':AH}{w w':World}(h:Rel c ρ H w){N:Nat}(hN:H.n<=N)(o:Rel (c.blank ρ H w N) ρ' H' w')(hn:H'.n=N+1){ℓ:Nat}(hℓ:ℓ<H.n)(S:H.get ℓ= .dead)(U:ρ ℓ=w_)(V :¬ c.E ℓ):
  ∃j,(∀l,l≠ℓ->j l=ρ l)/\Ext ρ j/\uy (kw N ℓ) ρ' j/\Rel c j (H.set ℓ ((H'.get N).bD (kw N ℓ))) w':=by
 have dj:∀{b:ai},b.rw=true->b≠ .dead:=λh e=>by rw[e]at h;cases h
 obtain⟨j,u⟩:∃j:Env,j=⟨λi=>if i=ℓ then ρ' N else ρ i,ρ'.fz⟩:=⟨_,rfl⟩
 have s:j.fz=ρ'.fz:=by rw[u]
 have q:j ℓ=ρ' N:=by rw[u];simp
 have off:∀l,l≠ℓ->j l=ρ l:=ZD
 have hx:Ext ρ j:=by
  refine⟨λl x e=>?_,λk vs e=>by rw[s];exact o.qZ k vs e⟩
  have:l≠ℓ:=λJ=>Y
  rw[off l this];exact e
 have v:uy (kw N ℓ) ρ' j:=by
  refine⟨λl x e=>?_,ZD⟩
  by_cases f:l=N
  ·subst f;rw[D7,q];exact e
  ·rw[KQ f]
   have P:l<N:=by
    refine Nat.lt_of_not_le λW=>?_
    have:ρ' l=w_:=o.top l O
    rw[this]at e;cases e
   have T:=(o.env l P).2
   have:l≠ℓ:=λJ=>by
    subst J
    rw[T]at e
    change ρ l=a_ x at e
    rw[U]at e;cases e
   rw[off l this,<-e]
   exact T.symm
 have y:∀l r a,H.get l≠ .dead->ρ l=a_ (r,a)->(c.blank ρ H w N).Z r∨(c.blank ρ H w N).X r:=λl r a S f=>by
  cases d:(H.get l).rw with
  |true=>exact .inr (.inr ⟨l,a,trivial,d,f⟩)
  |false=>exact .inl (.inr ⟨l,a,trivial,S,d,f⟩)
 have C:∀l,l≠ℓ->(H.set ℓ ((H'.get N).bD (kw N ℓ))).get l=H.get l:=λl hl=>x_ _ _ (λe=>hl e.symm)
 have gs:(H.set ℓ ((H'.get N).bD (kw N ℓ))).get ℓ=(H'.get N).bD (kw N ℓ):=h_ _ _ _
 have Q:w.heap.size<=w'.heap.size:=o.size
 refine⟨j,off,hx,v,λl=>?_,λl D r a R K d f F=>?_,λl r a d f t=>?_,λk L=>?_,q_ h.size Q,o.os.trans h.os,o.output.trans h.output,o.tape.trans h.tape,λl hl=>?_,λg hg=>?_,λl r a m f t=>?_,λl hl=>?_,λl hl=>?_,λk vs e=>o.qY k vs (by rw[<-s];exact e),λl r a d f=>?_,λk L=>by rw[s];exact o.xw k (.inl L),λk vs e=>by rw[s];exact o.qZ k vs (h.qZ k vs e)⟩
 ·by_cases e:l=ℓ
  ·subst e;rw[gs,q];exact bp.bD v (o.dF N)
  ·rw[C l e,off l e]
   by_cases m:H.get l= .dead
   ·rw[m];trivial
   ·exact bp.world (λr a e=>(o.gH r (y l r a m e)).2) ((h.dF l).ext hx)
 ·by_cases e:l=ℓ
  ·subst e
   have G:D≠l:=λe=>K e.symm
   rw[gs,ai.qw]at d
   rw[q]at f
   rw[off D G]at F
   rw[C D G]
   apply g_
   intro m
   rcases y D r R m F with t|t
   ·exact o.gL N r a d f t
   ·exact o.hid N r a (dj d) f t
  ·rw[C l e]at d
   rw[off l e]at f
   by_cases J:D=ℓ
   ·subst J
    rw[gs]
    rw[q]at F
    apply g_
    intro m
    exact o.hid N r R (λe=>m (by rw[e];rfl)) F (.inr ⟨l,a,trivial,d,f⟩)
   ·rw[off D J]at F
    rw[C D J]
    exact h.sep l D r a R K d f F
 ·by_cases e:l=ℓ
  ·subst e
   rw[gs,ai.qw]at d
   rw[q]at f
   exact o.gL N r a d f (.inl t)
  ·rw[C l e]at d
   rw[off l e]at f
   exact h.gL l r a d f t
 ·obtain⟨f,F⟩:=h.gH k L
  exact⟨f,((o.gH k (L.imp .inl .inl)).2).trans F⟩
 ·have I:H.n<=l:=hl
  rw[off l O];exact h.top l I
 ·obtain⟨a,hM⟩:=h.fp g hg
  grind
 ·by_cases e:l=ℓ
  ·subst e
   rw[gs]at m
   rw[q]at f
   exact o.hid N r a (λe=>m (by rw[e];rfl)) f (.inl t)
  ·rw[C l e]at m
   rw[off l e]at f
   exact h.hid l r a m f t
 ·obtain⟨e1,e2⟩:=h.env l hl
  have:l≠ℓ:=λe=>V (e▸hl)
  simp_all
 ·have I:H.n<=l:=hl
  rw[C l O];exact h.low l I
 ·rw[s]
  by_cases e:l=ℓ
  ·subst e
   rw[gs,ai.qw]at d
   rw[q]at f
   exact o.pV N r a d f
  ·rw[C l e]at d
   rw[off l e]at f
   exact o.xw r (.inr ⟨l,a,trivial,d,f⟩)
section
mutual
def AV.beq:AV->AV->Bool
 | .bool a,.bool b=>a==b
 | .int k x,.int v y=>b_ (k=v)&&b_ (x=y)
 | .str s,.str t=>b_ (s=t)
 | .ptr a b c d,.ptr a' h l o=>b_ (a=a')&&b_ (b=h)&&b_ (c=l)&&b_ (d=o)
 | .nilPtr,.nilPtr=>true
 | .slice a b c d e f,.slice a' h l o q m=>b_ (a=a')&&b_ (b=h)&&b_ (c=l)&&b_ (d=o)&&b_ (e=q)&&b_ (f=m)
 | .aw,.aw=>true
 | .own a b c,.own a' h l=>b_ (a=a')&&b_ (b=h)&&b_ (c=l)
 | .map a,.map b=>b_ (a=b)
 | .fn f a b,.fn m a' h=>b_ (f=m)&&bt.beq a a'&&bt.beq b h
 | .yield a,.yield b=>b_ (a=b)
 | .aB,.aB=>true
 | .nilIface,.nilIface=>true
 | .iface t a,.iface w a'=>b_ (t=w)&&a.beq a'
 | .agg a,.agg b=>bt.beq a b
 | .bK a,.bK b=>bt.beq a b
 | .any,.any=>true
 | .fc cs j,.fc u C=>bt.beq cs u&&b_ (j=C)
 | .addr a b,.addr a' h=>b_ (a=a')&&b_ (b=h)
 | .ab n e f,.ab D q m=>b_ (n=D)&&b_ (e=q)&&(d_ n).all λi=>bt.beq (f i) (m i)
 |_,_=>false
def bt.beq:List AV->List AV->Bool
 |[],[]=>true
 |a::as,b::E=>a.beq b&&bt.beq as E
 |_,_=>false
end
mutual
theorem AV.fH{ρ:Env}:∀(a b:AV)(v:Value),a.beq b=true->VR ρ b v->VR ρ a v
 | .fn f x y,b,v,h,d=>by
  cases b<;>simp only[AV.beq,kH,bf,bn]at h
  obtain⟨⟨rfl,m⟩,o⟩:=h
  simp only[VR]at d⊢
  obtain⟨us,vs,rfl,l,s⟩:=d
  exact⟨us,vs,rfl,bt.fH x _ _ m l,bt.fH y _ _ o s⟩
 | .iface t a,b,v,h,d=>by
  cases b<;>simp only[AV.beq,kH,bf,bn]at h
  obtain⟨rfl,m⟩:=h
  simp only[VR]at d⊢
  obtain⟨u,rfl,l⟩:=d
  exact⟨u,rfl,AV.fH a _ _ m l⟩
 | .agg as,b,v,h,d=>by
  cases b<;>simp only[AV.beq,kH]at h
  simp only[VR]at d⊢
  obtain⟨us,rfl,l⟩:=d
  exact⟨us,rfl,bt.fH as _ _ h l⟩
 | .bK as,b,v,h,d=>by
  cases b<;>simp only[AV.beq,kH]at h
  simp only[VR]at d⊢
  obtain⟨us,rfl,l⟩:=d
  exact⟨us,rfl,bt.fH as _ _ h l⟩
 | .fc cs j,b,v,h,d=>by
  cases b<;>simp only[AV.beq,kH,bf,bn]at h
  obtain⟨m,rfl⟩:=h
  simp only[VR]at d⊢
  obtain⟨b,q,vs,rfl,l,s⟩:=d
  exact⟨b,q,vs,rfl,l,bt.fH cs _ _ m s⟩
 | .ab n e f,b,v,h,d=>by
  cases b<;>simp only[AV.beq,kH,bf,bn,List.all_eq_true]at h
  obtain⟨⟨rfl,rfl⟩,m⟩:=h
  simp only[VR]at d⊢
  rcases d with d|⟨b,q,c,a,w,rfl,o,l⟩
  ·exact .inl d
  ·exact .inr ⟨b,q,c,a,w,rfl,o,λhl=>⟨(l hl).1,(l hl).2.1,λi hi=>⟨((l hl).2.2 i hi).1,bt.fH (f i) _ _ (m i (List.mem_range.2 hi)) ((l hl).2.2 i hi).2⟩⟩⟩
 | .addr _ _,b,v,h,d=>by cases b<;>simp only[AV.beq,kH,bf,bn,beq_iff_eq]at h<;>simp_all
 | .bool _,b,v,h,d=>by cases b<;>simp only[AV.beq,kH,bf,bn,beq_iff_eq]at h<;>simp_all
 | .int _ _,b,v,h,d=>by cases b<;>simp only[AV.beq,kH,bf,bn,beq_iff_eq]at h<;>simp_all
 | .str _,b,v,h,d=>by cases b<;>simp only[AV.beq,kH,bf,bn,beq_iff_eq]at h<;>simp_all
 | .ptr _ _ _ _,b,v,h,d=>by cases b<;>simp only[AV.beq,kH,bf,bn,beq_iff_eq]at h<;>simp_all
 | .nilPtr,b,v,h,d=>by cases b<;>simp only[AV.beq,kH,bf,bn,beq_iff_eq]at h<;>simp_all
 | .slice _ _ _ _ _ _,b,v,h,d=>by cases b<;>simp only[AV.beq,kH,bf,bn,beq_iff_eq]at h<;>simp_all
 | .aw,b,v,h,d=>by cases b<;>simp only[AV.beq,kH,bf,bn,beq_iff_eq]at h<;>simp_all
 | .own _ _ _,b,v,h,d=>by cases b<;>simp only[AV.beq,kH,bf,bn,beq_iff_eq]at h<;>simp_all
 | .map _,b,v,h,d=>by cases b<;>simp only[AV.beq,kH,bf,bn,beq_iff_eq]at h<;>simp_all
 | .yield _,b,v,h,d=>by cases b<;>simp only[AV.beq,kH,bf,bn,beq_iff_eq]at h<;>simp_all
 | .aB,b,v,h,d=>by cases b<;>simp only[AV.beq,kH,bf,bn,beq_iff_eq]at h<;>simp_all
 | .nilIface,b,v,h,d=>by cases b<;>simp only[AV.beq,kH,bf,bn,beq_iff_eq]at h<;>simp_all
 | .any,b,v,h,d=>by cases b<;>simp only[AV.beq,kH,bf,bn,beq_iff_eq]at h<;>simp_all
theorem bt.fH{ρ:Env}:∀(a b:List AV)(vs:List Value),bt.beq a b=true->aU ρ b vs->aU ρ a vs
 |[],[],_,_,h=>h
 |a::as,b::C,vs,h,d=>by
  simp only[bt.beq,bf]at h
  simp only[aU]at d⊢
  obtain⟨u,us,rfl,m,o⟩:=d
  exact⟨u,us,rfl,AV.fH _ _ _ h.1 m,bt.fH _ _ _ h.2 o⟩
 |[],_::_,_,h,_=>by simp[bt.beq]at h
 |_::_,[],_,h,_=>by simp[bt.beq]at h
end
section
variable {R:Type} (X:RI R) (I:ba)
def Vw(o:Oper)(ev:Operand->AV)(H:AH)(K:AV->R):R :=
 match o.op with
 | .load t a=>yf X I t H (ev a) K
 | .slice t x lo hi mx=>PH X I t (ev x) (lo.map ev) (hi.map ev) (mx.map ev) H K
 | .lookup t x i ok=>q9 X I t (ev x) (ev i) ok H K
 | .convert s d x=>match I.dI s,I.dI d with
  |some (.slice e),a_ .string=>PI X I e (ev x) H K
  |_,_=>X.fail
 | .call {callee:=.builtin .len,args,argTypes}=>match args.toList,argTypes.toList with
  |[x],[t]=>Pg X I t (ev x) H K
  |_,_=>X.fail
 |_=>X.fail
def eE(P:Program)(o:Oper)(ev:Operand->AV)(a:AH)(v:AV):Prop :=
 (∀c,o.op≠ .defer c)/\∀c ρ w (e:Operand->Value),(∀x,VR ρ (ev x) (e x))->Rel c ρ a w->∃u,(execOp e o).run P w= .ok (.value u) w/\VR ρ v u
inductive YN where
 |gz|reader|vK
def Vx(o:Oper):YN :=
 match o.op with
 | .load .. | .slice .. | .lookup .. => .reader
 | .convert s _ _=>match I.dI s with
  |some (.slice _)=> .reader
  |_=> .vK
 | .store .. | .mapUpdate .. | .insert .. | .mapEntry .. | .entryStore .. | .panic _=> .gz
 | .call c=>match c.callee with
  | .builtin .len=> .reader
  | .builtin .min| .builtin .max=> .vK
  |_=> .gz
 |_=> .vK
def sD(o:Oper):Bool :=
 match o.op with
 | .alloc _| .box .. | .buildSlice .. | .makeMap .. | .makeSlice .. | .convert .. =>true
 |_=>false
def KR{α:Type}(n:Nat)(K:Nat->α): α:=match n with|0=>K 0|m+1=>K (m+1)
theorem HX{α}(n)(K:Nat->α):KR n K=K n:=by cases n<;>rfl
structure PM where
 n:Nat
 l:List Nat
def PM.at(p:PM)(j:Nat):Nat:=p.l.getD (p.n-1-j) 0
def PM.pre(p:PM)(i j:Nat):Bool:=(p.at j).testBit i
def rn(p:PM)(a:List Edge):Nat:=a.foldl (λs e=>bif Region.binds .any e then s ||| 2^e.on ||| p.at e.on else s) 0
def PM.of:List Oper->PM->PM
 |[],p=>p
 |o::os,p=>KR (rn p o.after.toList) λm=>PM.of os {n:=p.n+1,l:=m::p.l}
def D8(o:Oper):List Tmp:=o.op.operands.toList.filterMap (λ| .tmp t=>a_ t|_=>w_)
def sE:List Nat->Nat->Bool
 |[],_=>false
 |a::as,x=>bif i_ a x then true else sE as x
theorem vL:∀{l x},sE l x=true↔x∈l
 |[],x=>by simp[sE]
 |a::as,x=>by
  simp only[sE]
  cases h:i_ a x with
  |true=>simp_all
  |false=>
   have b :¬ x=a:=λe=>ZD
   simp only[cond_false,List.mem_cons,b,false_or]
   exact vL
def St.lk(G:Nat)(s:St)(o:Oper):Operand->AV
 | .tmp i=>bif sE (D8 o) i then cR s.t i else .any
 |x=>s.ev G x
def gA(ops:Array Oper)(o:Oper):List Tmp :=
 o.dst.toList++D8 o++(match o.guard with|some (j,_)=>(match(ops[j]?).bind (·.dst)with|some d=>[d]|none=>[])|none=>[])
def gB(o:Oper):Bool:=match Vx I o with| .gz=>true|_=>false
def gP(ops:Array Oper)(p:PM):Bool :=
  (ops.toList.zipIdx.all λx => x.1.after.toList.all λe => !Region.binds .any e || m_ e.on x.2) &&
  (ops.toList.zipIdx.all λx => ops.toList.zipIdx.all λy =>
    !Nat.blt y.2 x.2 ||
      ((!(gB I x.1 && gB I y.1) || p.pre y.2 x.2) &&
       ((match y.1.dst with|some d => !(gA ops x.1).contains d|none => true) || p.pre y.2 x.2) &&
       ((match x.1.dst with|some d => !(gA ops y.1).contains d|none => true) || p.pre y.2 x.2)))
inductive Out where
 |skip
 |pure (a:AV)
 |fresh (a:AV) (b:ai)
 |read (a:AV)
 |gz (a:AV) (H:AH)
structure jI where
 ix:Nat
 o:Oper
 s:St
 out:Out
def jI.next(n0:Nat)(e:jI):St :=
 match e.out with
 | .skip=>e.s.put e.o.dst (.bK [])
 | .pure v=>e.s.put e.o.dst v
 | .read v=>e.s.put e.o.dst v
 | .fresh v b=>(e.s.heap (e.s.H.set (n0+e.ix) b)).put e.o.dst v
 | .gz v H=>(e.s.heap H).put e.o.dst v
def gQ(p:PM)(n0 i:Nat):List Nat->AH->AH
 |[],H=>H
 |a::as,H=>bif p.pre a i then gQ p n0 i as H else(gQ p n0 i as H).set (n0+a) .dead
def ff(p:PM)(n0 i:Nat)(H:AH):List Nat->AH->AH
 |[],H'=>H'
 |a::as,H'=>bif p.pre a i then ff p n0 i H as H' else(ff p n0 i H as H').set (n0+a) (H.get (n0+a))
def po(p:PM)(al:List Nat)(n0 i:Nat)(o:Oper)(ev:Operand->AV)(v:AV)(K:R):List jI->R
 |[]=>K
 |e::es=>match e.out with
  | .gz _ _=>bif p.pre e.ix i then po p al n0 i o ev v K es
   else Vw X I o ev (gQ p n0 i al e.s.H) λa=>X.ak (v.beq a) (po p al n0 i o ev v K es)
  |_=>po p al n0 i o ev v K es
def pp(p:PM)(al:List Nat)(n0 h:Nat)(H:AH)(K:R):List jI->R
 |[]=>K
 |e::es=>match e.out with
  | .read v=>bif p.pre e.ix h then pp p al n0 h H K es
   else Vw X I e.o (e.s.lk I.G e.o) (gQ p n0 e.ix al H) λa=>X.ak (v.beq a) (pp p al n0 h H K es)
  |_=>pp p al n0 h H K es
def Gi(b:iQ R)(round:gZ R)(p:PM)(al:List Nat)(n0 N i:Nat)(c:List jI)(o:Oper)(s:St)(a:jI->R):R :=
 match Vx I o with
 | .vK=>DW X I o (s.lk I.G o) (.blank N) λv H'=>
   bif i_ H'.n N then a {ix:=i,o,s,out:=.pure v}
   else bif i_ H'.n (N+1)&&sD o then a {ix:=i,o,s,out:=.fresh (v.bD (kw N (n0+i))) ((H'.get N).bD (kw N (n0+i)))}
   else X.fail
 | .reader=>Vw X I o (s.lk I.G o) (gQ p n0 i al s.H) λv=>po X I p al n0 i o (s.lk I.G o) v (a {ix:=i,o,s,out:=.read v}) c
 | .gz=>Pq X I b round o (s.lk I.G o) (gQ p n0 i al s.H) (λv H'=>bif t_ H'.n N then pp X I p al n0 i (ff p n0 i s.H al H') (a {ix:=i,o,s,out:=.gz v (ff p n0 i s.H al H')}) c else X.fail) (λ_ _=>X.fail)
def vM(a:iQ R)(round:gZ R)(ops:Array Oper)(p:PM)(al:List Nat)(n0 N:Nat)(K:St->R):List Oper->Nat->List jI->St->R
 |[],_,_,s=>K s
 |o::rest,i,c,s=>
  match o.guard with
  |none=>Gi X I a round p al n0 N i c o s λe=>vM a round ops p al n0 N K rest (i+1) (e::c) (e.next n0)
  |some (j,want)=>
   match(ops[j]?).bind (·.dst)with
   |none=>X.fail
   |some d=>
    match cR s.t d with
    | .bool b=>
     let run (s:St):=Gi X I a round p al n0 N i c o s λe=>vM a round ops p al n0 N K rest (i+1) (e::c) (e.next n0)
     let skip (s:St):=vM a round ops p al n0 N K rest (i+1) ({ix:=i,o,s,out:=.skip}::c) (jI.next n0 {ix:=i,o,s,out:=.skip})
     X.cond b (λ_=>(bif want then run else skip) (s.put (a_ d) (.bool true))) (λ_=>(bif want then skip else run) (s.put (a_ d) (.bool false)))
    | .bK []=>vM a round ops p al n0 N K rest (i+1) ({ix:=i,o,s,out:=.skip}::c) (jI.next n0 {ix:=i,o,s,out:=.skip})
    |_=>X.fail
def lO:Nat->List Oper->List Nat
 |_,[]=>[]
 |i,o::os=>bif (match Vx I o with| .vK=>sD o|_=>false)then i::lO (i+1) os else lO (i+1) os
def drawn(N:Nat):ot R:=λa round ops k s=>
 bif gP I ops (PM.of ops.toList {n:=0,l:=[]})&&t_ (s.H.n+ops.size) N then
  vM X I a round ops (PM.of ops.toList {n:=0,l:=[]}) (lO I 0 ops.toList) s.H.n N k.n ops.toList 0 [] (s.heap (s.H.up (s.H.n+ops.size)))
 else X.fail
end
section
variable {R:Type} {X:RI R} {sem:R->Prop} (hX:X.Ok sem) {I:ba} {P:Program} (hI:I.Ok P)
include hX hI in
theorem D9{o:Oper}{ev:Operand->AV}{H:AH}{K:AV->R}(h:sem (Vw X I o ev H K)):∃v,sem (K v)/\eE P o ev H v:=by
 unfold Vw at h
 split at h
 ·rename_i t a f
  obtain⟨b,j,k⟩:=vf hX hI h
  refine⟨b,j,by simp[f],λc ρ w e g l=>?_⟩
  obtain⟨v,m,n⟩:=k c ρ w (e a) (g a) l
  exact⟨v,by simp[execOp,f,m],n⟩
 ·rename_i t x lo hi mx f
  obtain⟨b,j,k⟩:=yi hX hI H h
  refine⟨b,j,by simp[f],λc ρ w e g l=>?_⟩
  obtain⟨u,m,n⟩:=k c ρ w (e x) (lo.map e) (hi.map e) (mx.map e) (g x) (kW g lo) (kW g hi) (kW g mx) l
  exact⟨u,by simp[execOp,f,m],n⟩
 ·rename_i t x i ok f
  obtain⟨b,j,k⟩:=tH hX hI h
  refine⟨b,j,by simp[f],λc ρ w e g l=>?_⟩
  obtain⟨u,m,n⟩:=k c ρ w (e x) (e i) (g x) (g i) l
  exact⟨u,by simp[execOp,f,m],n⟩
 ·rename_i s d x f
  split at h
  ·rename_i e q r
   obtain⟨b,j,k⟩:=yj hX hI q r h
   refine⟨b,j,by simp[f],λc ρ w e g l=>?_⟩
   obtain⟨u,m,n⟩:=k c ρ w (e x) (g x) l
   exact⟨u,by simp[execOp,f,m],n⟩
  ·exact zR
 ·rename_i args y f
  split at h
  ·rename_i x t hx ht
   have ha:args= #[x]:=by apply y_;simpa using hx
   have p:y= #[t]:=by apply y_;simpa using ht
   subst ha p
   obtain⟨b,j,k⟩:=Ga hX hI h #[t] rfl o.type
   refine⟨b,j,by simp[f],λc ρ w e g l=>?_⟩
   obtain⟨u,m,n⟩:=k c ρ w (e x) (g x) l
   exact⟨u,by simp[execOp,f,resolve,invoke,builtin,m],n⟩
  ·exact zR
 ·exact zR
end
end
section
def yw(P:Program)(o:Oper)(ev:Operand->AV)(N:Nat)(v:AV)(H':AH):Prop :=
 (∀c,o.op≠ .defer c)/\∀c ρ w (e:Operand->Value),(∀x,VR ρ (ev x) (e x))->Rel c ρ (.blank N) w->iO P (execOp e o) c ρ w v H'
def pq(ops:Array Oper)(e:jI):Prop :=
 e.o.guard=w_∨∃j a d,e.o.guard=a_ (j,a)/\(ops[j]?).bind (·.dst)=a_ d/\cR e.s.t d= .bool a
def KT(ops:Array Oper)(e:jI):Prop :=
 ∃j a d,e.o.guard=a_ (j,a)/\(ops[j]?).bind (·.dst)=a_ d/\(cR e.s.t d= .bool (!a)∨cR e.s.t d= .bK [])
structure jh (s s':St):Prop where
 nt:s'.nt=s.nt
 H:s'.H=s.H
 df:s'.df=s.df
 t:∀a,cR s'.t a=cR s.t a
theorem jh.refl(s):jh s s:=⟨rfl,rfl,rfl,λ_=>rfl⟩
theorem jh.lit{s d b}(h:cR s.t d= .bool b):jh s (s.put (a_ d) (.bool b)):=by
 simp only[St.put]
 cases m_ d s.nt with
 |true=>
  refine⟨rfl,rfl,rfl,λu=>?_⟩
  simp only[cond_true]
  rw[oo]
  grind
 |false=>exact jh.refl s
section
variable (P:Program) (I:ba) (ops:Array Oper) (p:PM) (al:List Nat) (n0 N:Nat) (s0:St)
def KU(e:jI):Prop :=
 ops[e.ix]? =a_ e.o/\
 match e.out with
 | .skip=>KT ops e
 | .pure v=>pq ops e/\gB I e.o=false/\∃H',H'.n=N/\yw P e.o (e.s.lk I.G e.o) N v H'
 | .fresh v b=>pq ops e/\gB I e.o=false/\e.ix∈al/\∃a H',H'.n=N+1/\yw P e.o (e.s.lk I.G e.o) N a H'/\v=a.bD (kw N (n0+e.ix))/\b=(H'.get N).bD (kw N (n0+e.ix))
 | .read v=>pq ops e/\gB I e.o=false/\eE P e.o (e.s.lk I.G e.o) (gQ p n0 e.ix al e.s.H) v
 | .gz v H2=>pq ops e/\gB I e.o=true/\∃H',rj P I e.o (e.s.lk I.G e.o) (gQ p n0 e.ix al e.s.H) (.ret v H')/\H2=ff p n0 e.ix e.s.H al H'/\H'.n<=N
def fI(E:Nat->jI):Nat->St
 |0=>s0
 |j+1=>(E j).next n0
structure iI (i:Nat) (E:Nat->jI) (s:St):Prop where
 ix:∀a,a<i->(E a).ix=a
 ok:∀a,a<i->KU P I ops p al n0 N (E a)
 same:∀a,a<i->jh (fI n0 s0 E a) (E a).s
 last:s=fI n0 s0 E i
 back:∀a h c b Hh,a<i->h<a->(E a).out= .read c->(E h).out= .gz b Hh->p.pre h a=false->eE P (E a).o ((E a).s.lk I.G (E a).o) (gQ p n0 a al (E h).s.H) c
 R1:∀a h c b Hh,h<i->a<h->(E a).out= .read c->(E h).out= .gz b Hh->p.pre a h=false->eE P (E a).o ((E a).s.lk I.G (E a).o) (gQ p n0 a al Hh) c
end
section
variable {P:Program} {I:ba} {ops:Array Oper} {p:PM} {al:List Nat} {n0 N:Nat} {s0:St}
theorem vN{E a i}(h:∀j,j<i->a j=E j):fI n0 s0 a i=fI n0 s0 E i:=by
 cases i with
 |zero=>rfl
 |succ i=>simp only[fI];grind
theorem iI.snoc{i E s}(h:iI P I ops p al n0 N s0 i E s)(e)(hi:e.ix=i)(C:KU P I ops p al n0 N e)(y:jh s e.s)
  (D:∀h v u b,h<i->e.out= .read v->(E h).out= .gz u b->p.pre h i=false->eE P e.o (e.s.lk I.G e.o) (gQ p n0 i al (E h).s.H) v)
  (F:∀j v u b,j<i->(E j).out= .read v->e.out= .gz u b->p.pre j i=false->eE P (E j).o ((E j).s.lk I.G (E j).o) (gQ p n0 j al b) v):
  ∃a,(∀j,j<i->a j=E j)/\a i=e/\iI P I ops p al n0 N s0 (i+1) a (e.next n0):=by
 obtain⟨a,t⟩:∃a:Nat->jI,a=λj=>if j=i then e else E j:=⟨_,rfl⟩
 have c:a i=e:=by rw[t];simp
 have off:∀j,j<i->a j=E j:=λj d=>Y
 refine⟨a,off,c,λj d=>?_,λj d=>?_,λj d=>?_,?_,λj k v u b d f l m w=>?_,λj k v u b f d l m w=>?_⟩
 ·by_cases q:j=i
  grind
  ·rw[off j O];exact h.ix j O
 ·by_cases q:j=i
  grind
  ·rw[off j O];exact h.ok j O
 ·by_cases q:j=i
  ·subst q
   rw[c,vN (λk f=>off k f),<-h.last]
   exact y
  ·rw[off j O,vN (λk f=>off k O)]
   exact h.same j O
 ·simp only[fI,c]
 ·by_cases q:j=i
  grind
  ·rw[off j O]at l⊢
   rw[off k O]at m⊢
   exact h.back j k v u b O f l m w
 ·by_cases q:k=i
  grind
  ·rw[off j O]at l⊢
   rw[off k O]at m
   exact h.R1 j k v u b O d l m w
end
section
variable {R:Type} {X:RI R} {sem:R->Prop} (hX:X.Ok sem) {I:ba} {P:Program} (hI:I.Ok P)
theorem eE.beq{P o ev a v b}(h:eE P o ev a b)(d:v.beq b=true):eE P o ev a v :=
 ⟨h.1,λc ρ w e f i=>by
  obtain⟨u,j,l⟩:=h.2 c ρ w e f i
  exact⟨u,j,AV.fH _ _ _ d l⟩⟩
include hX hI in
theorem nC{p:PM}{al:List Nat}{n0 i:Nat}{o:Oper}{ev:Operand->AV}{v:AV}{K:R}:∀{m:List jI},sem (po X I p al n0 i o ev v K m)->
  sem K/\∀e∈m,∀u n,e.out= .gz u n->p.pre e.ix i=false->eE P o ev (gQ p n0 i al e.s.H) v
 |[],h=>⟨h,λe q=>by cases q⟩
 |e::m,h=>by
  simp only[po]at h
  split at h
  ·rename_i u n f
   cases hp:p.pre e.ix i with
   |true=>
    rw[hp]at h
    obtain⟨j,g⟩:=nC h
    refine⟨j,λk a l d c b=>?_⟩
    rcases List.mem_cons.1 a with rfl|a
    ·rw[hp]at b;cases b
    ·exact g k a l d c b
   |false=>
    rw[hp]at h
    obtain⟨y,j,g⟩:=D9 hX hI h
    obtain⟨r,t⟩:=hX.ak _ _ j
    have g:=g.beq r
    obtain⟨w,x⟩:=nC t
    refine⟨w,λk a l d c b=>?_⟩
    rcases List.mem_cons.1 a with rfl|a
    ·exact g
    ·exact x k a l d c b
  ·rename_i f
   obtain⟨j,g⟩:=nC h
   refine⟨j,λk a l d c b=>?_⟩
   rcases List.mem_cons.1 a with rfl|a
   ·exact absurd c (f _ _)
   ·exact g k a l d c b
include hX hI in
theorem nD{p:PM}{al:List Nat}{n0 k:Nat}{H:AH}{K:R}:∀{l:List jI},sem (pp X I p al n0 k H K l)->
  sem K/\∀e∈l,∀v,e.out= .read v->p.pre e.ix k=false->eE P e.o (e.s.lk I.G e.o) (gQ p n0 e.ix al H) v
 |[],h=>⟨h,λe m=>by cases m⟩
 |e::l,h=>by
  simp only[pp]at h
  split at h
  ·rename_i v d
   cases hp:p.pre e.ix k with
   |true=>
    rw[hp]at h
    obtain⟨i,f⟩:=nD h
    refine⟨i,λj a g b c=>?_⟩
    rcases List.mem_cons.1 a with rfl|a
    ·rw[hp]at c;cases c
    ·exact f j a g b c
   |false=>
    rw[hp]at h
    obtain⟨g,i,f⟩:=D9 hX hI h
    obtain⟨n,q⟩:=hX.ak _ _ i
    have f:=f.beq n
    obtain⟨r,t⟩:=nD q
    refine⟨r,λj a g b c=>?_⟩
    rcases List.mem_cons.1 a with rfl|a
    ·rw[d]at b;cases b;exact f
    ·exact t j a g b c
  ·rename_i d
   obtain⟨i,f⟩:=nD h
   refine⟨i,λj a g b c=>?_⟩
   rcases List.mem_cons.1 a with rfl|a
   ·exact absurd b (d _)
   ·exact f j a g b c
def Gj(I:ba)(ops:Array Oper)(al:List Nat):Prop := ∀i o,ops[i]? =a_ o->(∃u,Vx I o=u/\u= .vK)->sD o=true->i∈al
include hX hI in
theorem Gk{a:iQ R}(x:gN P I sem a){round:gZ R}(q:hZ P I sem round){ops:Array Oper}{p:PM}{al:List Nat}(V:Gj I ops al){n0 N:Nat}{s0:St}{K:St->R}:
  ∀(l:List Oper)(i:Nat)(s:St)(E:Nat->jI),ops.toList.drop i=l->i<=ops.size->iI P I ops p al n0 N s0 i E s->sem (vM X I a round ops p al n0 N K l i (((d_ i).map E).reverse) s)->
  ∃sf m,sem (K sf)/\iI P I ops p al n0 N s0 ops.size m sf
 |[],i,s,E,hl,ag,ht,h=>by
  simp only[vM]at h
  have hi:ops.size<=i:=by
   have:=congrArg List.length hl
   simp at this;omega
  have:i=ops.size:=O
  subst this
  exact⟨s,E,h,ht⟩
 |o::rest,i,s,E,hl,ag,ht,h=>by
  have L:ops[i]? =a_ o:=by
   have:(ops.toList.drop i)[0]? =a_ o:=by rw[hl];rfl
   rw[List.getElem?_drop]at this
   simpa using this
  have Q:ops.toList.drop (i+1)=rest:=by rw[<-List.drop_drop,hl];rfl
  have mem:∀j,j<i->E j∈((d_ i).map E).reverse:=λj hj=>by simp;exact⟨j,hj,rfl⟩
  have next:∀(e:jI)(m:Nat->jI),(∀j,j<i->m j=E j)->m i=e->e::((d_ i).map E).reverse=((d_ (i+1)).map m).reverse:=λe m c D=>by
   rw[List.range_succ,List.map_append,List.reverse_append]
   simp only[List.map_cons,List.map_nil,List.reverse_cons,List.reverse_nil,List.nil_append,List.singleton_append,D]
   congr 2
   exact List.map_congr_left λj hj=>(c j (List.mem_range.1 hj)).symm
  have go:∀e:jI,e.ix=i->KU P I ops p al n0 N e->jh s e.s->
    (∀h v u S,h<i->e.out= .read v->(E h).out= .gz u S->p.pre h i=false->eE P e.o (e.s.lk I.G e.o) (gQ p n0 i al (E h).s.H) v)->
    (∀j v u S,j<i->(E j).out= .read v->e.out= .gz u S->p.pre j i=false->eE P (E j).o ((E j).s.lk I.G (E j).o) (gQ p n0 j al S) v)->
    sem (vM X I a round ops p al n0 N K rest (i+1) (e::((d_ i).map E).reverse) (e.next n0))->∃sf m,sem (K sf)/\iI P I ops p al n0 N s0 ops.size m sf:=by
   intro e c D W Y h5 h6
   obtain⟨m,k1,k2,k3⟩:=ht.snoc e c D W Y h5
   rw[next e m k1 k2]at h6
   exact Gk x q V rest (i+1) _ m Q (by have:=(Array.getElem?_eq_some_iff.1 L).1;omega) k3 h6
  have y:∀k:St,jh s k->(∀out,pq ops {ix:=i,o,s:=k,out})->
    sem (Gi X I a round p al n0 N i (((d_ i).map E).reverse) o k λe=>vM X I a round ops p al n0 N K rest (i+1) (e::((d_ i).map E).reverse) (e.next n0))->
    ∃sf m,sem (K sf)/\iI P I ops p al n0 N s0 ops.size m sf:=by
   intro k r U h
   unfold Gi at h
   split at h
   ·rename_i f
    have F:gB I o=false:=by simp[gB,f]
    have Z:=Be hX h
    obtain⟨v,H',c,D⟩:=Gd hX hI h
    cases hn:i_ H'.n N with
    |true=>
     rw[hn]at c
     exact go {ix:=i,o,s:=k,out:=.pure v} rfl ⟨L,U _,F,H',dE hn,Z,D⟩ r (λ_ _ _ _ _ e=>zG) (λ_ _ _ _ _ _ e=>zG) c
    |false=>
     rw[hn]at c
     cases C:i_ H'.n (N+1)&&sD o with
     |true=>
      simp only[C,cond_true,cond_false]at c
      simp only[bf]at C
      exact go {ix:=i,o,s:=k,out:=.fresh (v.bD (kw N (n0+i))) ((H'.get N).bD (kw N (n0+i)))} rfl ⟨L,U _,F,V i o L ⟨_,f,rfl⟩ C.2,v,H',dE C.1,⟨Z,D⟩,rfl,rfl⟩ r (λ_ _ _ _ _ e=>zG) (λ_ _ _ _ _ _ e=>zG) c
     |false=>
      simp only[C,cond_false]at c
      exact absurd c hX.fail
   ·rename_i f
    have F:gB I o=false:=by simp[gB,f]
    obtain⟨v,c,D⟩:=D9 hX hI h
    obtain⟨W,Y⟩:=nC hX hI (P:=P) c
    refine go {ix:=i,o,s:=k,out:=.read v} rfl ⟨L,U _,F,D⟩ r (λF v' u S w e1 e2 hp=>?_) (λ_ _ _ _ _ _ e=>zG) W
    cases e1
    exact Y _ (mem F w) u S e2 (by rw[ht.ix F w];exact hp)
   ·rename_i f
    have F:gB I o=true:=by simp[gB,f]
    obtain⟨out,c,D⟩:=D3 hX hI x q h
    cases out with
    |qt v H'=>exact absurd c hX.fail
    |ret v H'=>
     simp only[CO.sem]at c
     cases hle:t_ H'.n N with
     |false=>rw[hle]at c;exact absurd c hX.fail
     |true=>
     rw[hle]at c
     obtain⟨W,Y⟩:=nD hX hI (P:=P) c
     refine go {ix:=i,o,s:=k,out:=.gz v (ff p n0 i k.H al H')} rfl ⟨L,U _,F,H',D,rfl,jX hle⟩ r (λ_ _ _ _ _ e=>zG) (λj v' u S w e1 e2 hp=>?_) W
     cases e2
     have:=Y _ (mem j w) v' e1 (by rw[ht.ix j w];exact hp)
     rw[ht.ix j w]at this
     exact this
  have skip:∀k:St,jh s k->KT ops {ix:=i,o,s:=k,out:=.skip}->sem (vM X I a round ops p al n0 N K rest (i+1) ({ix:=i,o,s:=k,out:=.skip}::((d_ i).map E).reverse) (jI.next n0 {ix:=i,o,s:=k,out:=.skip}))->
    ∃sf m,sem (K sf)/\iI P I ops p al n0 N s0 ops.size m sf:=λk r U h=>
   go {ix:=i,o,s:=k,out:=.skip} rfl ⟨L,U⟩ r (λ_ _ _ _ _ e=>zG) (λ_ _ _ _ _ _ e=>zG) h
  simp only[vM]at h
  split at h
  ·rename_i T
   exact y s (jh.refl s) (λout=> .inl T) h
  ·rename_i j ad T
   split at h
   ·exact zR
   ·rename_i d hd
    split at h
    ·rename_i b hb
     have hc:=hX.cond _ _ _ h
     have g:jh s (s.put (a_ d) (.bool b)):=jh.lit hb
     have J:cR (s.put (a_ d) (.bool b)).t d= .bool b:=(g.t d).trans hb
     cases b<;>cases ad<;>simp only[if_true,kH,if_false,cond_true,cond_false]at hc
     ·exact y _ g (λout=> .inr ⟨j,_,d,T,hd,J⟩) hc
     ·exact skip _ g ⟨j,_,d,T,hd,.inl J⟩ hc
     ·exact skip _ g ⟨j,_,d,T,hd,.inl J⟩ hc
     ·exact y _ g (λout=> .inr ⟨j,_,d,T,hd,J⟩) hc
    ·rename_i hb
     exact skip s (jh.refl s) ⟨j,_,d,T,hd,.inr hb⟩ h
    ·exact zR
end
end
section
theorem PM.Gl{p:PM}(hl:p.l.length=p.n)(m){j}(a:j<p.n):({n:=p.n+1,l:=m::p.l}:PM).at j=p.at j:=by
 simp only[PM.at]
 grind
theorem PM.Tj(p:PM)(m):({n:=p.n+1,l:=m::p.l}:PM).at p.n=m:=by
 simp[PM.at]
theorem PM.Gm:∀(os)(p),p.l.length=p.n->(PM.of os p).l.length=(PM.of os p).n/\(PM.of os p).n=p.n+os.length/\(∀j,j<p.n->(PM.of os p).at j=p.at j)/\
  ∀t o,os[t]? =a_ o->∃q,(∀i,i<p.n+t->q.at i=(PM.of os p).at i)/\(PM.of os p).at (p.n+t)=rn q o.after.toList
 |[],p,h=>⟨h,rfl,λ_ _=>rfl,zA⟩
 |o::os,p,h=>by
  simp only[PM.of,HX]
  have b:=PM.Gm os {n:=p.n+1,l:=rn p o.after.toList::p.l} (by simp[h])
  obtain⟨c,d,a,m⟩:=b
  refine⟨c,by rw[d];simp;omega,λj f=>?_,λt s e=>?_⟩
  ·rw[a j zJ]
   exact PM.Gl h _ f
  ·cases t with
   |zero=>
    simp only[o_,fE]at e
    subst e
    refine⟨p,λi hi=>?_,?_⟩
    ·rw[a i zJ]
     exact(PM.Gl h _ O).symm
    ·rw[a (p.n+0) zA]
     exact PM.Tj p _
   |succ t=>
    grind
theorem z7{p i}:∀{a},(rn p a).testBit i=true->∃e∈a,Region.binds .any e=true/\(i=e.on∨(p.at e.on).testBit i=true):=by
 intro a
 have key:∀(a:List Edge)(s:Nat),(a.foldl (λs e=>bif Region.binds .any e then s ||| 2^e.on ||| p.at e.on else s) s).testBit i=true->s.testBit i=true∨∃e∈a,Region.binds .any e=true/\(i=e.on∨(p.at e.on).testBit i=true):=by
  intro a
  induction a with
  |nil=>simp
  |cons e a b=>
   grind
 intro h
 rcases key a 0 h with h|h
 all_goals grind
def bz(ops:Array Oper):PM:=PM.of ops.toList {n:=0,l:=[]}
section
variable {I:ba} {ops:Array Oper} (hplan:gP I ops (bz ops)=true)
include hplan
theorem iZ{j o}(c:ops[j]? =a_ o){e}(a:e∈o.after)(d:Region.binds .any e=true):e.on<j:=by
 simp only[gP,bf]at hplan
 have b:=List.all_eq_true.1 hplan.1 (o,j) Y
 have f:=List.all_eq_true.1 b e (by simpa using a)
 simp_all
theorem BD{i j}(d:j<ops.size)(h:(bz ops).pre i j=true):∃o e,ops[j]? =a_ o/\e∈o.after/\Region.binds .any e=true/\(i=e.on∨(bz ops).pre i e.on=true):=by
 have b:ops[j]? =a_ ops[j]:=z d
 obtain⟨_,_,_,f⟩:=PM.Gm ops.toList {n:=0,l:=[]} rfl
 obtain⟨q,k1,k2⟩:=f j ops[j] zA
 simp only[Nat.zero_add]at k1 k2
 unfold PM.pre bz at h
 rw[k2]at h
 obtain⟨e,g,c,k⟩:=z7 h
 have a:e∈ops[j].after:=by simpa using g
 refine⟨ops[j],e,b,a,c,k.imp id λm=>?_⟩
 unfold PM.pre bz
 rw[<-k1 e.on (iZ hplan b a c)]
 exact m
theorem uP:∀{j i},j<ops.size->(bz ops).pre i j=true->i<j:=by
 intro j
 induction j using l_ with
 |_ j g=>
  intro i a h
  obtain⟨o,e,b,c,d,k⟩:=BD hplan a h
  have f:=iZ hplan b c d
  grind
theorem mD{x y a b}(hx:ops[x]? =a_ a)(f:ops[y]? =a_ b)(c:y<x):
  ((gB I a=true/\gB I b=true)∨(∃d,b.dst=a_ d/\d∈gA ops a)∨(∃d,a.dst=a_ d/\d∈gA ops b))->(bz ops).pre y x=true:=by
 simp only[gP,bf]at hplan
 have e:=List.all_eq_true.1 hplan.2 (a,x) Y
 have g:=List.all_eq_true.1 e (b,y) Y
 have h:m_ y x=true:=by rw[n_];exact c
 grind
theorem j3{listed:Nat->Prop}(l:∀j o,ops[j]? =a_ o->listed j->∀e∈o.after,Region.binds .any e=true->listed e.on):
  ∀{j o},ops[j]? =a_ o->(∀e∈o.after,Region.binds .any e=true->listed e.on)->∀i,(bz ops).pre i j=true->listed i:=by
 intro j
 induction j using l_ with
 |_ j m=>
  intro o b c i h
  have d:=(Array.getElem?_eq_some_iff.1 b).1
  obtain⟨n,e,a,f,g,p⟩:=BD hplan d h
  rw[b]at a
  cases a
  have k:=iZ hplan b f g
  grind
end
def Hid(p:PM)(n0 i:Nat)(al:List Nat)(l:Nat):Prop := ∃a∈al,p.pre a i=false/\l=n0+a
theorem rp{p n0 i H}:∀{al},(gQ p n0 i al H).n=H.n
 |[]=>rfl
 |a::as=>by
  simp only[gQ]
  cases p.pre a i with
  |true=>exact rp
  |false=>exact rp
theorem jJ{p n0 i H}:∀{al}(l),(Hid p n0 i al l->(gQ p n0 i al H).get l= .dead)/\(¬ Hid p n0 i al l->(gQ p n0 i al H).get l=H.get l)
 |[],l=>⟨λh=>(by obtain⟨_,h,_⟩:=h;cases h),λ_=>rfl⟩
 |a::as,l=>by
  have e:=jJ (p:=p) (n0:=n0) (i:=i) (H:=H) (al:=as) l
  simp only[gQ]
  cases hp:p.pre a i with
  |true=>
   simp only[cond_true]
   have:Hid p n0 i (a::as) l↔Hid p n0 i as l:=by
    constructor
    ·rintro⟨b,c,h1,d⟩
     rcases List.mem_cons.1 c with rfl|c
     grind
     ·exact⟨b,c,h1,d⟩
    ·rintro⟨b,c,h⟩
     exact⟨b,f_ _ c,h⟩
   grind
  |false=>
   simp only[cond_false,A_]
   by_cases hl:l=n0+a
   ·rw[if_pos hl]
    exact⟨λ_=>rfl,λh=>absurd ⟨a,k_,hp,hl⟩ h⟩
   ·rw[if_neg hl]
    have:Hid p n0 i (a::as) l↔Hid p n0 i as l:=by
     constructor
     ·rintro⟨b,c,h1,d⟩
      rcases List.mem_cons.1 c with rfl|c
      ·exact absurd d hl
      ·exact⟨b,c,h1,d⟩
     ·rintro⟨b,c,h⟩
      exact⟨b,f_ _ c,h⟩
    grind
theorem iS{p n0 i H H'}:∀{al},(ff p n0 i H al H').n=H'.n
 |[]=>rfl
 |a::as=>by
  simp only[ff]
  cases p.pre a i with
  |true=>exact iS
  |false=>exact iS
theorem ck{p n0 i H H'}:∀{al}(l),(Hid p n0 i al l->(ff p n0 i H al H').get l=H.get l)/\(¬ Hid p n0 i al l->(ff p n0 i H al H').get l=H'.get l)
 |[],l=>⟨λh=>(by obtain⟨_,h,_⟩:=h;cases h),λ_=>rfl⟩
 |a::as,l=>by
  have e:=ck (p:=p) (n0:=n0) (i:=i) (H:=H) (H':=H') (al:=as) l
  simp only[ff]
  cases hp:p.pre a i with
  |true=>
   simp only[cond_true]
   have:Hid p n0 i (a::as) l↔Hid p n0 i as l:=by
    constructor
    ·rintro⟨b,c,h1,d⟩
     rcases List.mem_cons.1 c with rfl|c
     grind
     ·exact⟨b,c,h1,d⟩
    ·rintro⟨b,c,h⟩
     exact⟨b,f_ _ c,h⟩
   grind
  |false=>
   simp only[cond_false,A_]
   by_cases hl:l=n0+a
   ·rw[if_pos hl]
    exact⟨λ_=>by rw[hl],λh=>absurd ⟨a,k_,hp,hl⟩ h⟩
   ·rw[if_neg hl]
    have:Hid p n0 i (a::as) l↔Hid p n0 i as l:=by
     constructor
     ·rintro⟨b,c,h1,d⟩
      rcases List.mem_cons.1 c with rfl|c
      ·exact absurd d hl
      ·exact⟨b,c,h1,d⟩
     ·rintro⟨b,c,h⟩
      exact⟨b,f_ _ c,h⟩
    grind
end
section
def jI.val(e:jI):AV :=
 match e.out with
 | .skip=> .bK []
 | .pure v=>v
 | .fresh v _=>v
 | .read v=>v
 | .gz v _=>v
def dO(E:Nat->jI)(i:Nat):Prop := ∃v H,(E i).out= .gz v H
def eH(E:Nat->jI)(i:Nat):Prop := ∃v b,(E i).out= .fresh v b
theorem St.Vy(s:St)(d)(a):(s.put d a).H=s.H:=by
 cases s
 cases d with
 |none=>rfl
 |some i=>simp only[St.put];grind
theorem St.Tk(s:St)(d)(a):(s.put d a).nt=s.nt:=by
 cases s
 cases d with
 |none=>rfl
 |some i=>simp only[St.put];grind
theorem St.Tl(s:St)(d)(a):(s.put d a).df=s.df:=by
 cases s
 cases d with
 |none=>rfl
 |some i=>simp only[St.put];grind
theorem St.Vz(s:St)(d)(a)(u):cR (s.put d a).t u=if d=a_ u/\u<s.nt then a else cR s.t u:=by
 cases d with
 |none=>simp[St.put]
 |some i=>
  cases hi:m_ i s.nt with
  |true=>
   simp only[St.put,hi,cond_true,oo]
   rw[n_]at hi
   grind
  |false=>
   have b :¬ i<s.nt:=λe=>by rw[<-n_,hi]at e;cases e
   simp only[St.put,hi,cond_false]
   grind
theorem jI.Tm(e:jI)(n0 u):cR (e.next n0).t u=if e.o.dst=a_ u/\u<e.s.nt then e.val else cR e.s.t u:=by
 unfold jI.next jI.val
 cases e.out<;>simp only[St.Vz,St.heap]<;>rfl
theorem jI.Pu(e:jI)(n0):(e.next n0).nt=e.s.nt:=by
 unfold jI.next
 cases e.out<;>simp only[St.Tk,St.heap]
theorem jI.Pv(e:jI)(n0):(e.next n0).df=e.s.df:=by
 unfold jI.next
 cases e.out<;>simp only[St.Tl,St.heap]
theorem pu(n0)(s0)(E)(i):fI n0 s0 E (i+1)=(E i).next n0:=rfl
set_option linter.unusedSectionVars false
section
variable {P:Program} {I:ba} {ops:Array Oper} {al:List Nat} {n0 N:Nat} {s0 sf:St} {E:Nat->jI}
variable (hplan:gP I ops (bz ops)=true) (ht:iI P I ops (bz ops) al n0 N s0 ops.size E sf)
include hplan ht
theorem Pw{i}(hi:i<ops.size):(E i).s.H=(fI n0 s0 E i).H:=(ht.same i hi).H
theorem tM{i}(hi:i<ops.size):ops[i]? =a_ (E i).o:=by
 have:=(ht.ok i hi).1
 rwa[ht.ix i hi]at this
theorem KV:∀i,i<=ops.size->(fI n0 s0 E i).nt=s0.nt
 |0,_=>rfl
 |i+1,hi=>by
  rw[pu,jI.Pu,(ht.same i O).nt]
  exact KV i O
theorem R2:∀i,i<=ops.size->(fI n0 s0 E i).df=s0.df
 |0,_=>rfl
 |i+1,hi=>by
  rw[pu,jI.Pv,(ht.same i O).df]
  exact R2 i O
theorem Tn{i}(hi:i<ops.size)(u):cR (fI n0 s0 E (i+1)).t u=if(E i).o.dst=a_ u/\u<s0.nt then(E i).val else cR (fI n0 s0 E i).t u:=by
 rw[pu,jI.Tm,(ht.same i hi).t u,(ht.same i hi).nt,KV hplan ht i O]
theorem qx{u:Nat}:∀(d i),i+d<=ops.size->(∀j,i<=j->j<i+d->(E j).o.dst≠a_ u)->cR (fI n0 s0 E (i+d)).t u=cR (fI n0 s0 E i).t u
 |0,i,_,_=>rfl
 |d+1,i,hi,h=>by
  have e:i+(d+1)=(i+d)+1:=O
  rw[e,Tn hplan ht O,if_neg ZD]
  exact qx d i O Y
theorem BE{u}(a :¬ u<s0.nt):∀i,i<=ops.size->cR (fI n0 s0 E i).t u=cR s0.t u
 |0,_=>rfl
 |i+1,hi=>by
  rw[Tn hplan ht O,if_neg (λh=>a h.2)]
  exact BE a i O
theorem kL{i}(hi:i<ops.size):(¬ dO E i/\¬ eH E i/\(fI n0 s0 E (i+1)).H=(fI n0 s0 E i).H)∨
  (¬ dO E i/\∃v b,(E i).out= .fresh v b/\i∈al/\(fI n0 s0 E (i+1)).H=(fI n0 s0 E i).H.set (n0+i) b)∨
  (¬ eH E i/\∃v H2 H',(E i).out= .gz v H2/\H2=ff (bz ops) n0 i (fI n0 s0 E i).H al H'/\H'.n<=N/\(fI n0 s0 E (i+1)).H=H2):=by
 have d:=(ht.ok i hi).2
 have f:=ht.ix i hi
 have g:=Pw hplan ht hi
 have a:∀o,(E i).out=o->(fI n0 s0 E (i+1)).H=(match o with| .fresh _ b=>(fI n0 s0 E i).H.set (n0+i) b| .gz _ H=>H|_=>(fI n0 s0 E i).H):=by
  intro o c
  rw[pu]
  simp only[jI.next,c]
  cases o<;>simp only[St.Vy,St.heap,f,g]
 cases c:(E i).out with
 |skip=>exact .inl ⟨(λ⟨_,_,e⟩=>by rw[c]at e;cases e),(λ⟨_,_,e⟩=>by rw[c]at e;cases e),a _ c⟩
 |pure v=>exact .inl ⟨(λ⟨_,_,e⟩=>by rw[c]at e;cases e),(λ⟨_,_,e⟩=>by rw[c]at e;cases e),a _ c⟩
 |read v=>exact .inl ⟨(λ⟨_,_,e⟩=>by rw[c]at e;cases e),(λ⟨_,_,e⟩=>by rw[c]at e;cases e),a _ c⟩
 |fresh v b=>
  rw[c]at d
  exact .inr (.inl ⟨(λ⟨_,_,e⟩=>by rw[c]at e;cases e),v,b,rfl,Y,a _ c⟩)
 |gz v H2=>
  rw[c]at d
  obtain⟨_,_,H',_,h,j⟩:=d
  rw[f,g]at h
  exact .inr (.inr ⟨(λ⟨_,_,e⟩=>by rw[c]at e;cases e),v,H2,H',rfl,h,j,a _ c⟩)
theorem Px(a:s0.H.n<=N):∀i,i<=ops.size->(fI n0 s0 E i).H.n<=N
 |0,_=>a
 |i+1,hi=>by
  rcases kL hplan ht (O:i<ops.size)with⟨_,_,e⟩|⟨_,v,b,_,_,e⟩|⟨_,v,H2,H',_,c,d,e⟩
  ·rw[e];exact Px a i O
  ·rw[e];exact Px a i O
  ·rw[e,c,iS];exact d
theorem Gn(c:∀l,n0<=l->s0.H.get l= .dead){a}(ha:a∈al):∀i,i<=ops.size->i<=a->(fI n0 s0 E i).H.get (n0+a)= .dead
 |0,_,_=>c _ O
 |i+1,hi,g=>by
  have d:=Gn c ha i O O
  rcases kL hplan ht (O:i<ops.size)with⟨_,_,e⟩|⟨_,v,b,_,_,e⟩|⟨_,v,H2,H',_,h,j,e⟩
  ·rw[e];exact d
  ·rw[e,A_,if_neg O];exact d
  ·rw[e,h]
   have f:(bz ops).pre a i=false:=by
    rw[c_]
    intro f
    have:=uP hplan O f
    omega
   rw[(ck _).1 ⟨a,ha,f,rfl⟩]
   exact d
theorem ll{l}:∀(d i),i+d<=ops.size->(∀h,i<=h->h<i+d->dO E h->Hid (bz ops) n0 h al l)->(∀a,i<=a->a<i+d->eH E a->l≠n0+a)->
  (fI n0 s0 E (i+d)).H.get l=(fI n0 s0 E i).H.get l
 |0,i,_,_,_=>rfl
 |d+1,i,hi,g,j=>by
  have k:i+(d+1)=(i+d)+1:=O
  have c:=ll d i O (λh m o=>g h m O) Y
  rw[k]
  rcases kL hplan ht (O:i+d<ops.size)with⟨_,_,e⟩|⟨_,v,b,f,_,e⟩|⟨_,v,H2,H',f,n,p,e⟩
  ·rw[e];exact c
  ·rw[e,A_,if_neg (j (i+d) O O ⟨v,b,f⟩)];exact c
  ·rw[e,n,(ck _).1 (g (i+d) O O ⟨v,H2,f⟩)]
   exact c
theorem nF:∀(d i),i+d<=ops.size->(∀h,i<=h->h<i+d->¬ dO E h)->(fI n0 s0 E (i+d)).H.n=(fI n0 s0 E i).H.n
 |0,i,_,_=>rfl
 |d+1,i,hi,a=>by
  have g:i+(d+1)=(i+d)+1:=O
  have c:=nF d i O (λh j k=>a h j O)
  rw[g]
  rcases kL hplan ht (O:i+d<ops.size)with⟨_,_,e⟩|⟨_,v,b,f,_,e⟩|⟨_,v,H2,H',f,l,m,e⟩
  ·rw[e];exact c
  ·rw[e];exact c
  ·exact absurd ⟨v,H2,f⟩ (a (i+d) O O)
end
theorem qy(E)(k):∀(d i),i+d=k->∃m,i<=m/\m<=k/\(m<k->dO E m)/\∀h,i<=h->h<m->¬ dO E h
 |0,i,h=>⟨i,dw _,O,λa=>O,O⟩
 |d+1,i,h=>by
  by_cases hi:dO E i
  grind
  ·obtain⟨m,b,c,e,f⟩:=qy E k d (i+1) O
   grind
end
section
set_option linter.unusedSectionVars false
def dH(listed:Array Bool)(i:Nat):Prop:=listed.getD i false=true
structure Py (ops:Array Oper) (al:List Nat) (n0 N:Nat) (s0:St) (E:Nat->jI) (c:fw) (DI:Env) (listed:Array Bool) (m:Nat) (ρ:Env) (HS:AH) (a:Act) (w:World):Prop where
 size:listed.size=ops.size
 closed:∀f g,ops[f]? =a_ g->dH listed f->∀e∈g.after,Region.binds .any e=true->dH listed e.on
 Pc:m<=ops.size
 mh:m<ops.size->dO E m/\¬ dH listed m
 mlt:∀h,h<m->dO E h->dH listed h
 n:HS.n=(fI n0 s0 E m).H.n
 lo:n0+ops.size<=HS.n
 g1:∀x,x<ops.size->eH E x->dH listed x->x<m->HS.get (n0+x)=(fI n0 s0 E m).H.get (n0+x)
 g2:∀x k b,x<ops.size->(E x).out= .fresh k b->dH listed x->m<=x->HS.get (n0+x)=b
 g3:∀x,x<ops.size->eH E x->¬ dH listed x->HS.get (n0+x)= .dead/\ρ (n0+x)=w_
 g4:∀l,(∀x,x<ops.size->eH E x->l≠n0+x)->HS.get l=(fI n0 s0 E m).H.get l
 rel:Rel c ρ HS w
 ext:Ext DI ρ
 p9:a.tmps.size=s0.nt
 HY:∀i,¬ i<s0.nt->VR ρ (cR s0.t i) undef
 tmp:∀x,x<=ops.size->(x<ops.size->¬ dH listed x)->∀i,(x<ops.size->i∈gA ops (E x).o)->(∀f,f<x->(E f).o.dst=a_ i->dH listed f)->VR ρ (cR (fI n0 s0 E x).t i) (a.tmps.getD i undef)
 df:Gh ρ s0.df a.defers
theorem vO(E)(i):∀d,(∀h,i<=h->h<i+d->¬ dO E h)∨∃h,i<=h/\h<i+d/\dO E h/\∀a,h<a->a<i+d->¬ dO E a
 |0=>Y
 |d+1=>by
  by_cases b:dO E (i+d)
  grind
  ·rcases vO E i d with h|⟨h,h1,c,e,f⟩
   all_goals grind
section
variable {P:Program} {I:ba} {ops:Array Oper} {al:List Nat} {n0 N:Nat} {s0 sf:St} {E:Nat->jI} {c:fw} {DI:Env}
variable (hplan:gP I ops (bz ops)=true) (ht:iI P I ops (bz ops) al n0 N s0 ops.size E sf)
include hplan ht
theorem vP{listed:Array Bool}{ρ ρ':Env}{a:Act}{y:Nat}(r:y<ops.size)(H :¬ dH listed y)(G:∀i,(bz ops).pre i y=true->dH listed i)
  (I:∀b,b<ops.size->dH listed b->∀i,(bz ops).pre i b=true->dH listed i) (J:listed.size=ops.size)
  (h:a.tmps.size=s0.nt) (s:∀u,¬ u<s0.nt->VR ρ (cR s0.t u) undef)
  (l:∀x,x<=ops.size->(x<ops.size->¬ dH listed x)->∀u,(x<ops.size->u∈gA ops (E x).o)->(∀j,j<x->(E j).o.dst=a_ u->dH listed j)->VR ρ (cR (fI n0 s0 E x).t u) (a.tmps.getD u undef))
  (hx:Ext ρ ρ') {v:Value} (K:VR ρ' (E y).val v):
  ∀x,x<=ops.size->(x<ops.size->¬ dH (listed.setIfInBounds y true) x)->∀u,(x<ops.size->u∈gA ops (E x).o)->(∀j,j<x->(E j).o.dst=a_ u->dH (listed.setIfInBounds y true) j)->
   VR ρ' (cR (fI n0 s0 E x).t u) ((a.put (E y).o.dst v).tmps.getD u undef):=by
 have m:∀j,dH (listed.setIfInBounds y true) j↔j=y∨dH listed j:=λj=>by
  unfold dH
  by_cases e:j=y
  simp_all
  ·simp only[M,e_]
   grind
 intro x n L u N P
 have w:x<ops.size->¬ dH listed x:=ZD
 have C:x<ops.size->x≠y:=ZD
 by_cases f:u<s0.nt
 ·by_cases q:(E y).o.dst=a_ u
  ·have c:(a.put (E y).o.dst v).tmps.getD u undef=v:=by
    rw[q]
    simp[Act.put,M,h,f]
   rw[c]
   by_cases Q:y<x
   ·
    have k:∀b,y+1<=b->b<(y+1)+(x-(y+1))->(E b).o.dst≠a_ u:=by
     intro b W X R
     have D:b<ops.size:=O
     have S:dH listed b:=Y
     have:(bz ops).pre y b=true:=mD hplan (tM hplan ht D) (tM hplan ht r) O (.inr (.inl ⟨u,q,by simp[gA,R]⟩))
     exact Y
    have:=qx hplan ht (x-(y+1)) (y+1) O k
    have T:y+1+(x-(y+1))=x:=O
    rw[T]at this
    rw[this,Tn hplan ht r,if_pos ⟨q,f⟩]
    exact K
   ·have g:x<ops.size:=by omega
    have U:=C g
    have:(bz ops).pre x y=true:=mD hplan (tM hplan ht r) (tM hplan ht g) O Y
    grind
  ·have c:(a.put (E y).o.dst v).tmps.getD u undef=a.tmps.getD u undef:=by
    cases F:(E y).o.dst with
    |none=>rfl
    |some d=>
     have:d≠u:=ZD
     simp only[Act.put,M,e_]
     rw[if_neg this]
   rw[c]
   refine VR.ext hx _ _ (l x n w u N λj V p=>((m j).1 (P j V p)).resolve_left λe=>?_)
   subst e
   exact q p
 ·rw[BE hplan ht f x n]
  have c:(a.put (E y).o.dst v).tmps.getD u undef=undef:=by
   have Z:(a.put (E y).o.dst v).tmps.size=s0.nt:=by
    cases F:(E y).o.dst with
    |none=>exact h
    |some d=>simp[Act.put,h]
   rw[M,p_ Y]
   rfl
  rw[c]
  exact VR.ext hx _ _ (s u f)
theorem To{listed:Array Bool}{m:Nat}{ρ:Env}{HS:AH}{a:Act}{w:World}(hN:s0.H.n<=N)(ef:∀l,n0<=l->s0.H.get l= .dead)(fN:∀l,c.E l->l<n0)(hG:c.G=I.G)
  (h:Py ops al n0 N s0 E c DI listed m ρ HS a w) {y:Nat} (hy:y∈Region.ready .any ops listed) {ro:Option Nat} {n:Nat} {K:Act->World->Prop} {Q:Exit->Act->World->Prop}
  (hK:∀m' ρ' e5 a' w',Py ops al n0 N s0 E c DI (listed.setIfInBounds y true) m' ρ' e5 a' w'->K a' w'):wpOpIn (WF ro) n P ops Q y K a w:=by
 obtain⟨ch,o,ag,cp⟩:=mem_ready.1 hy
 have J:y<ops.size:=(Array.getElem?_eq_some_iff.1 ag).1
 have a7 :¬ dH listed y:=by
  unfold dH
  rw[M,z Y]at ch⊢
  simpa using ch
 have ad:(E y).o=o:=by
  have:=tM hplan ht J
  rw[ag]at this
  exact Y
 have T:∀i,(bz ops).pre i y=true->dH listed i:=j3 hplan h.closed ag (λe he hb=>cp e he hb)
 have b3:∀p,p<ops.size->dH listed p->∀i,(bz ops).pre i p=true->dH listed i:=λp hz e6=>j3 hplan h.closed (z hz) (h.closed p _ (z hz) e6)
 have V:∀j,dH (listed.setIfInBounds y true) j↔j=y∨dH listed j:=λj=>by
  unfold dH
  by_cases e:j=y
  ·subst e
   simp[M,h.size,J]
  ·simp only[M,e_]
   grind
 have ap:(listed.setIfInBounds y true).size=ops.size:=by simp[h.size]
 have X:∀j o,ops[j]? =a_ o->dH (listed.setIfInBounds y true) j->∀e∈o.after,Region.binds .any e=true->dH (listed.setIfInBounds y true) e.on:=by
  intro j o' cr hl e he hb
  refine(V _).2 (.inr ?_)
  rcases(V j).1 hl with rfl|hl
  ·rw[ag]at cr;cases cr
   exact cp e he hb
  ·exact h.closed j o' cr hl e he hb
 have bd:∀u,u∈gA ops o->VR ρ (cR (E y).s.t u) (a.tmps.getD u undef):=by
  intro u hu
  rw[(ht.same y J).t u]
  refine h.tmp y (Nat.le_of_lt J) (λ_=>a7) u ZD λj hj ga=>?_
  have e7:j<ops.size:=O
  exact T j (mD hplan ag (tM hplan ht e7) hj Y)
 have bs:∀x,VR ρ ((E y).s.lk I.G o x) (a.eval x):=by
  intro x
  cases x with
  |tmp u=>
   simp only[St.lk,Act.eval]
   cases hu:sE (D8 o) u with
   |true=>exact bd u (by simp only[gA,List.mem_append];exact .inl (.inr (vL.1 hu)))
   |false=>simp only[cond_false,VR]
  |const v=>
   simp only[St.lk,St.ev,Sj,Act.eval]
   split
   ·rename_i a ha;exact jZ ρ v a ha
   ·simp only[VR]
  |global g=>
   simp only[St.lk,St.ev,Act.eval]
   cases hg:m_ (Lk g) I.G&&i_ (ux (Lk g)) g with
   |true=>
    rw[bf,n_,Nat.beq_eq]at hg
    obtain⟨N,hN⟩:=h.rel.fp (Lk g) O
    simp only[cond_true,VR]
    exact⟨g,N,by rw[hg.2]at hN;exact hN,zA⟩
   |false=>simp only[cond_false,VR]
  |func f=>simp only[St.lk,St.ev,Act.eval,VR];exact⟨[],[],rfl,zH,zH⟩
 have cv:=ht.ix y J
 have U:=(ht.ok y J).2
 have eg:=Pw hplan ht J
 have S:pq ops (E y)->Region.wanted o (yielded ops a.tmps)=true:=by
  rintro(hg|⟨j,want,d,hg,hd,hv⟩)
  ·rw[ad]at hg;simp[Region.wanted,hg]
  ·rw[ad]at hg
   have:=bd d (by simp[gA,hg,hd])
   rw[hv]at this
   simp only[VR]at this
   rw[ph hg hd this]
   simp
 have b8:KT ops (E y)->Region.wanted o (yielded ops a.tmps)=false:=by
  rintro⟨j,want,d,hg,hd,hv⟩
  rw[ad]at hg
  have:=bd d (by simp[gA,hg,hd])
  rcases hv with hv|hv
  ·rw[hv]at this
   simp only[VR]at this
   rw[ph hg hd this]
   cases want<;>rfl
  ·rw[hv]at this
   simp only[VR]at this
   obtain⟨vs,h5,h6⟩:=this
   simp only[aU]at h6
   subst h6
   exact nA hg hd h5
 have a6:Region.wanted o (yielded ops a.tmps)=true->o.wpIn (WF ro) n P a w K Q->wpOpIn (WF ro) n P ops Q y K a w:=λhw hh=>by
  simp only[wpOpIn,ag,hw,if_true];exact hh
 have bi:∀(v:AV)(u:Value)(w':World)(ρ':Env),(E y).val=v->¬ dO E y->¬ eH E y->Ext ρ ρ'->(∀x,x<ops.size->ρ' (n0+x)=ρ (n0+x))->Rel c ρ' HS w'->VR ρ' v u->K (a.put o.dst u) w':=by
  intro v u w' ρ' ei cx c6 hx gb hr hv
  have Z:=vP hplan ht J a7 T b3 h.size h.p9 h.HY h.tmp hx (by rw[ei];exact hv)
  rw[ad]at Z
  refine hK m ρ' HS _ w' ⟨ap,X,h.Pc,λW=>⟨(h.mh W).1,λhl=>?_⟩,λx b4 hh=>(V x).2 (.inr (h.mlt x b4 hh)),h.n,h.lo,λx r R hl W=>?_,λx v b r R hl W=>?_,λx r R hl=>?_,h.g4,hr,h.ext.trans hx,?_,λu hu=>VR.ext hx _ _ (h.HY u hu),Z,?_⟩
  ·rcases(V m).1 hl with e|hl
   ·rw[e]at W
    exact cx (e▸(h.mh (e▸W)).1)
   ·exact(h.mh W).2 hl
  ·refine h.g1 x r R Y W
  ·exact h.g2 x v b r R (((V x).1 hl).resolve_left λe=>c6 (e▸⟨v,b,R⟩)) W
  ·obtain⟨e1,e2⟩:=h.g3 x r R ZD
   grind
  ·cases hd:o.dst with
   |none=>exact h.p9
   |some d=>simp[Act.put,h.p9]
  ·cases hd:o.dst with
   |none=>exact h.df.ext hx
   |some d=>exact h.df.ext hx
 have ej:∀out,(E y).out=out->(∀v H,out≠ .gz v H)->¬ dO E y:=λout ho e8 ⟨v,H,e⟩=>Y
 have ek:∀out,(E y).out=out->(∀v b,out≠ .fresh v b)->¬ eH E y:=λout ho e8 ⟨v,b,e⟩=>Y
 have F:∀x,x<ops.size->eH E x->x∈al:=λx r R=>by
  rcases kL hplan ht r with⟨_,e,_⟩|⟨_,_,_,_,e,_⟩|⟨e,_⟩
  all_goals grind
 cases C:(E y).out with
 |skip=>
  rw[C]at U
  have hw:=b8 U
  simp only[wpOpIn,ag,hw,kH,if_false]
  exact⟨λ_ _=>trivial,bi (.bK []) undef w ρ (by simp[jI.val,C]) Y Y (Ext.refl ρ) (λ_ _=>rfl) h.rel vD⟩
 |pure v=>
  rw[C]at U
  obtain⟨hw,_,H',dd,bq,D⟩:=U
  rw[ad]at bq D
  have b1:HS.n<=N:=by rw[h.n];exact Px hplan ht hN m h.Pc
  obtain⟨u,w',ρ',e1,e2,e3,e4,_⟩:=D _ ρ w a.eval bs (h.rel.blank b1)
  obtain⟨f1,f2⟩:=h.rel.Th b1 e3 dd
  refine a6 (S hw) ⟨iA,?_⟩
  rw[Oper.semAt_eq _ _ _ bq,e1,Oper.uponIn_value]
  refine bi v u w' ρ' (by simp[jI.val,C]) Y Y f1 (λx hx=>?_) f2 e4
  have en:=h.lo
  have:n0+x<(HS.up N).n:=s_ O b1
  exact(e3.env (n0+x) this).2
 |read v=>
  rw[C]at U
  obtain⟨hw,_,eY⟩:=U
  have key:∃q:AH,eE P o ((E y).s.lk I.G o) q v/\q.n=HS.n/\∀l,q.get l= .dead∨q.get l=HS.get l:=by
   by_cases dk:m<y
   ·have a8:m<ops.size:=by omega
    obtain⟨⟨u,Hh,W⟩,dr⟩:=h.mh a8
    have hp:(bz ops).pre m y=false:=by
     rw[c_];intro e;exact dr (T m e)
    have hb:=ht.back y m v u Hh J dk C W hp
    rw[ad]at hb
    refine⟨_,hb,by rw[rp,Pw hplan ht a8];exact h.n.symm,λl=>?_⟩
    by_cases hid:Hid (bz ops) n0 y al l
    ·exact .inl ((jJ l).1 hid)
    ·rw[(jJ l).2 hid,Pw hplan ht a8]
     by_cases b5:∃x,x<ops.size/\eH E x/\l=n0+x
     ·obtain⟨x,r,R,rfl⟩:=b5
      have b0:=F x r R
      have bc:(bz ops).pre x y=true:=by
       cases bc:(bz ops).pre x y with
       |true=>rfl
       |false=>exact absurd ⟨x,b0,bc,rfl⟩ hid
      by_cases b9:x<m
      ·exact .inr (h.g1 x r R (T x bc) b9).symm
      ·exact .inl (Gn hplan ht ef b0 m h.Pc O)
     ·exact .inr (h.g4 l ZD).symm
   ·have gf:y<m:=by
     rcases r_ y m with e|e
     ·exact e
     ·have:m=y:=by omega
      subst this
      obtain⟨⟨u,Hh,W⟩,_⟩:=h.mh J
      grind
    have a8:=h.Pc
    have stage:∃x,y<=x/\x<=m/\(∀k,x<=k->k<m->¬ dO E k)/\eE P o ((E y).s.lk I.G o) (gQ (bz ops) n0 y al (fI n0 s0 E x).H) v:=by
     rcases vO E y (m-y)with gi|⟨k,h1,h2,h3,h4⟩
     ·grind
     ·obtain⟨u,Hh,hk⟩:=h3
      have eo:y<k:=by
       rcases r_ y k with e|e
       ·exact e
       ·grind
      have dt:k<ops.size:=O
      have hp:(bz ops).pre y k=false:=by
       rw[c_];intro e
       exact a7 (b3 k dt (h.mlt k O ⟨u,Hh,hk⟩) y e)
      have hb:=ht.R1 y k v u Hh dt eo C hk hp
      rw[ad]at hb
      have gl:Hh=(fI n0 s0 E (k+1)).H:=by
       rcases kL hplan ht dt with⟨e,_,_⟩|⟨e,_⟩|⟨_,v',e9,fa,e1,_,_,e2⟩
       ·exact absurd ⟨u,Hh,hk⟩ e
       ·grind
       ·grind
      grind
    obtain⟨x,gm,b4,gn,fb⟩:=stage
    have e0:x+(m-x)=m:=O
    have b6:=nF hplan ht (m-x) x O ZD
    rw[e0]at b6
    refine⟨_,fb,by rw[rp,h.n,b6],λl=>?_⟩
    by_cases hid:Hid (bz ops) n0 y al l
    ·exact .inl ((jJ l).1 hid)
    ·rw[(jJ l).2 hid]
     by_cases b5:∃p,p<ops.size/\eH E p/\l=n0+p
     ·obtain⟨p,er,R,rfl⟩:=b5
      have et:=F p er R
      have cc:(bz ops).pre p y=true:=by
       cases cc:(bz ops).pre p y with
       |true=>rfl
       |false=>exact absurd ⟨p,et,cc,rfl⟩ hid
      have gD:=uP hplan J cc
      have hc:=ll hplan ht (l:=n0+p) (m-x) x O ZD O
      rw[e0]at hc
      rw[<-hc]
      exact .inr (h.g1 p er R (T p cc) O).symm
     ·have hc:=ll hplan ht (l:=l) (m-x) x O ZD Y
      rw[e0]at hc
      rw[<-hc]
      exact .inr (h.g4 l ZD).symm
  obtain⟨q,⟨bq,D⟩,dv,hM⟩:=key
  have ea:=h.rel.xN (L:=λl=>q.get l= .dead) (HM:=q) dv λl=>by
   grind
  obtain⟨u,e1,e2⟩:=D _ ρ w a.eval bs ea
  refine a6 (S hw) ⟨iA,?_⟩
  rw[Oper.semAt_eq _ _ _ bq,e1,Oper.uponIn_value]
  exact bi v u w ρ (by simp[jI.val,C]) Y Y (Ext.refl ρ) (λ_ _=>rfl) h.rel e2
 |fresh v b=>
  rw[C]at U
  obtain⟨hw,_,ez,v0,H',dd,⟨bq,D⟩,hv,hb⟩:=U
  rw[ad]at bq D
  rw[cv]at ez hv hb
  have b1:HS.n<=N:=by rw[h.n];exact Px hplan ht hN m h.Pc
  obtain⟨u,w',ρ',e1,e2,e3,e4,_⟩:=D _ ρ w a.eval bs (h.rel.blank b1)
  have en:=h.lo
  obtain⟨d1,d2⟩:=h.g3 y J ⟨v,b,C⟩ a7
  obtain⟨eA,off,hx,eB,cd⟩:=h.rel.Ti b1 e3 dd (ℓ:=n0+y) O d1 d2 (λe=>Y)
  rw[<-hb]at cd
  have fo:VR eA v u:=by rw[hv];exact VR.bD eB _ _ e4
  refine a6 (S hw) ⟨iA,?_⟩
  rw[Oper.semAt_eq _ _ _ bq,e1,Oper.uponIn_value]
  have Z:=vP hplan ht J a7 T b3 h.size h.p9 h.HY h.tmp hx (v:=u) (by simp only[jI.val,C];exact fo)
  rw[ad]at Z
  have cx :¬ dO E y:=Y
  refine hK m eA (HS.set (n0+y) b) _ w' ⟨ap,X,h.Pc,λW=>⟨(h.mh W).1,λhl=>?_⟩,λx b4 hh=>(V x).2 (.inr (h.mlt x b4 hh)),h.n,h.lo,λx r R hl W=>?_,λx v' b' r R hl W=>?_,λx r R hl=>?_,λl hl=>?_,cd,h.ext.trans hx,?_,λu hu=>VR.ext hx _ _ (h.HY u hu),Z,?_⟩
  ·rcases(V m).1 hl with e|hl
   ·rw[e]at W
    exact cx (e▸(h.mh (e▸W)).1)
   ·exact(h.mh W).2 hl
  ·by_cases e:x=y
   ·subst e
    rw[h_]
    have hc:=ll hplan ht (l:=n0+x) (m-(x+1)) (x+1) (by have:=h.Pc;omega) (λk h1 h2 hh=>⟨x,ez,by
      rw[c_];intro hp
      have eC:=h.Pc
      exact a7 (b3 k O (h.mlt k O hh) x hp),rfl⟩) O
    have e0:x+1+(m-(x+1))=m:=O
    rw[e0]at hc
    rw[hc]
    rcases kL hplan ht r with⟨_,e,_⟩|⟨_,v',b',e1,_,e2⟩|⟨e,_⟩
    ·exact absurd R e
    ·rw[C]at e1;cases e1
     rw[e2,h_]
    ·exact absurd R e
   ·rw[x_ _ _ O]
    exact h.g1 x r R Y W
  ·by_cases e:x=y
   ·subst e
    rw[C]at R;cases R
    exact h_ _ _ _
   ·rw[x_ _ _ O]
    exact h.g2 x v' b' r R Y W
  ·have e:x≠y:=by simp_all
   obtain⟨e1,e2⟩:=h.g3 x r R ZD
   exact⟨by rw[x_ _ _ O];exact e1,Y⟩
  ·have e:l≠n0+y:=hl y J ⟨v,b,C⟩
   rw[x_ _ _ (λe'=>e e'.symm)]
   exact h.g4 l hl
  ·cases hd:o.dst with
   |none=>exact h.p9
   |some d=>simp[Act.put,h.p9]
  ·cases hd:o.dst with
   |none=>exact h.df.ext hx
   |some d=>exact h.df.ext hx
 |gz v H2=>
  rw[C]at U
  obtain⟨hw,cf,H',D,cg,hq⟩:=U
  rw[ad]at cf
  rw[cv,eg,ad]at D
  rw[cv,eg]at cg
  have eC:=h.Pc
  have dk:m=y:=by
   rcases Nat.lt_trichotomy m y with e|e|e
   ·have a8:m<ops.size:=by omega
    obtain⟨⟨u,Hh,W⟩,dr⟩:=h.mh a8
    have b7:=(ht.ok m a8).2
    rw[W]at b7
    exact absurd (T m (mD hplan ag (tM hplan ht a8) e Y)) dr
   ·exact e
   ·exact absurd (h.mlt y e ⟨v,H2,C⟩) a7
  subst dk
  have dv:(gQ (bz ops) n0 m al (fI n0 s0 E m).H).n=HS.n:=by rw[rp];exact h.n.symm
  have ea:=h.rel.xN (L:=Hid (bz ops) n0 m al) dv λl=>by
   by_cases hid:Hid (bz ops) n0 m al l
   ·exact .inl ⟨hid,(jJ l).1 hid⟩
   ·refine .inr ⟨hid,?_⟩
    rw[(jJ l).2 hid]
    by_cases b5:∃x,x<ops.size/\eH E x/\l=n0+x
    ·obtain⟨x,r,R,rfl⟩:=b5
     have bc:(bz ops).pre x m=true:=by
      cases bc:(bz ops).pre x m with
      |true=>rfl
      |false=>exact absurd ⟨x,F x r R,bc,rfl⟩ hid
     exact(h.g1 x r R (T x bc) (uP hplan J bc)).symm
    ·exact(h.g4 l ZD).symm
  refine a6 (S hw) (D ro n (c.xN ρ HS w (Hid (bz ops) n0 m al)) ρ w a K Q hG bs ea (λv2 H3 u w' ρ' e hx eF hv=>?_) zA)
  cases e
  obtain⟨_,cd⟩:=h.rel.KH (L:=Hid (bz ops) n0 m al) (H2:=ff (bz ops) n0 m HS al H') eF iS λl=>by
   by_cases hid:Hid (bz ops) n0 m al l
   ·exact .inl ⟨hid,(ck l).1 hid⟩
   ·exact .inr ⟨hid,(ck l).2 hid⟩
  have fv:∀l,l<HS.n->l<H'.n/\ρ' l=ρ l:=λl hl=>eF.env l hl
  have hs:HS.n<=H'.n:=Y
  obtain⟨m',k1,k2,k3,k4⟩:=qy E ops.size (ops.size-(m+1)) (m+1) O
  have e0:m+1+(m'-(m+1))=m':=O
  have fs:(fI n0 s0 E (m+1)).H=H2:=by
   rcases kL hplan ht J with⟨e,_,_⟩|⟨e,_⟩|⟨_,v',e9,fa,e1,_,_,e2⟩
   ·exact absurd ⟨v,H2,C⟩ e
   ·grind
   ·grind
  have b6:=nF hplan ht (m'-(m+1)) (m+1) O ZD
  rw[e0,fs,cg,iS]at b6
  have eG:∀l,(∀a,m+1<=a->a<m'->eH E a->l≠n0+a)->(fI n0 s0 E m').H.get l=H2.get l:=λl hl=>by
   have:=ll hplan ht (l:=l) (m'-(m+1)) (m+1) O ZD Y
   grind
  have Z:=vP hplan ht J a7 T b3 h.size h.p9 h.HY h.tmp hx (v:=u) (by simp only[jI.val,C];exact hv)
  rw[ad]at Z
  have c6 :¬ eH E m:=Y
  have en:=h.lo
  have ed:∀x,(bz ops).pre x m=true->x<m:=λx hp=>uP hplan J hp
  refine hK m' ρ' (ff (bz ops) n0 m HS al H') _ w' ⟨ap,X,k2,λW=>⟨k3 W,λhl=>?_⟩,λx b4 hh=>?_,?_,?_,λx r R hl W=>?_,λx v' b' r R hl W=>?_,λx r R hl=>?_,λl hl=>?_,cd,h.ext.trans hx,?_,λu hu=>VR.ext hx _ _ (h.HY u hu),Z,?_⟩
  ·obtain⟨u',Hh,ft⟩:=k3 W
   have b7:=(ht.ok m' W).2
   rw[ft]at b7
   have hp:=mD hplan (tM hplan ht W) ag O Y
   grind
  ·by_cases e:x<m
   ·exact(V x).2 (.inr (h.mlt x e hh))
   grind
  ·rw[iS,b6]
  ·rw[iS];omega
  ·have b9:x≠m:=λe=>c6 (e▸R)
   have eL:=((V x).1 hl).resolve_left b9
   have b0:=F x r R
   by_cases eM:x<m
   ·rw[eG _ O,cg]
    by_cases hid:Hid (bz ops) n0 m al (n0+x)
    ·rw[(ck _).1 hid,(ck _).1 hid]
     exact h.g1 x r R eL eM
    ·rw[(ck _).2 hid,(ck _).2 hid]
   ·have hid:Hid (bz ops) n0 m al (n0+x):=⟨x,b0,by
     rw[c_];intro hp;exact eM (ed x hp),rfl⟩
    rw[(ck _).1 hid]
    obtain⟨v',b',ee⟩:=R
    rw[h.g2 x v' b' r ee eL O]
    have hc:=ll hplan ht (l:=n0+x) (m'-(x+1)) (x+1) O (λk h1 h2 hh=>Y) O
    have e1:x+1+(m'-(x+1))=m':=O
    rw[e1]at hc
    rw[hc]
    rcases kL hplan ht r with⟨_,e,_⟩|⟨_,v2,b2,e1,_,e2⟩|⟨e,_⟩
    ·exact absurd ⟨v',b',ee⟩ e
    ·rw[ee]at e1;cases e1
     rw[e2,h_]
    grind
  ·have b9:x≠m:=by omega
   have hid:Hid (bz ops) n0 m al (n0+x):=⟨x,F x r ⟨v',b',R⟩,by
    grind,rfl⟩
   rw[(ck _).1 hid]
   exact h.g2 x v' b' r R Y O
  ·have eN :¬ dH listed x:=by simp_all
   have hid:Hid (bz ops) n0 m al (n0+x):=⟨x,F x r R,by
    rw[c_];intro hp;exact eN (T x hp),rfl⟩
   obtain⟨e1,e2⟩:=h.g3 x r R eN
   exact⟨by rw[(ck _).1 hid];exact e1,Y⟩
  ·rw[eG l Y,cg]
   by_cases hid:Hid (bz ops) n0 m al l
   ·rw[(ck _).1 hid,(ck _).1 hid]
    exact h.g4 l hl
   ·rw[(ck _).2 hid,(ck _).2 hid]
  ·cases hd:o.dst with
   |none=>exact h.p9
   |some d=>simp[Act.put,h.p9]
  ·cases hd:o.dst with
   |none=>exact h.df.ext hx
   |some d=>exact h.df.ext hx
end
end
section
set_option linter.unusedSectionVars false
theorem tN{I}:∀{os i t o},os[t]? =a_ o->Vx I o= .vK->sD o=true->i+t∈lO I i os
 |[],i,t,o,h,_,_=>by simp at h
 |b::os,i,t,o,h,h1,a=>by
  cases t with
  |zero=>
   simp only[o_,fE]at h
   subst h
   simp only[lO,h1,a,cond_true,Nat.add_zero]
   simp
  |succ t=>
   simp only[List.getElem?_cons_succ]at h
   have:=tN (i:=i+1) h h1 a
   have e:i+(t+1)=i+1+t:=O
   rw[e]
   simp only[lO]
   grind
section
variable {P:Program} {I:ba} {ops:Array Oper} {al:List Nat} {n0 N:Nat} {s0 sf:St} {E:Nat->jI} {c:fw} {DI:Env}
variable (hplan:gP I ops (bz ops)=true) (ht:iI P I ops (bz ops) al n0 N s0 ops.size E sf)
include hplan ht
theorem KW{listed m ρ j a w}(h:Py ops al n0 N s0 E c DI listed m ρ j a w)(d:∀i,i<ops.size->dH listed i):(aQ.n sf).post c DI .normal a w:=by
 have k:m=ops.size:=by
  have:=h.Pc
  rcases r_ m ops.size with e|e
  ·exact absurd (d m e) (h.mh e).2
  ·omega
 subst k
 have b:=ht.last
 refine⟨ρ,h.ext,⟨by rw[b,KV hplan ht _ (dw _)];exact h.p9,λu=>?_⟩,?_,by rw[b,R2 hplan ht _ (dw _)];exact h.df⟩
 ·rw[b]
  exact h.tmp ops.size (dw _) (λe=>O) u (λe=>O) Y
 ·rw[b]
  refine h.rel.congr h.n.symm λl=>?_
  by_cases g:∃x,x<ops.size/\eH E x/\l=n0+x
  ·obtain⟨x,f,o,rfl⟩:=g
   exact(h.g1 x f o (d x f) f).symm
  ·exact(h.g4 l ZD).symm
theorem BF{listed}(b:listed.size=ops.size)(g:Region.ready .any ops listed=[]):∀i,i<ops.size->dH listed i:=by
 intro i
 induction i using l_ with
 |_ i c=>
  intro hi
  apply g_
  intro hn
  have:i∈Region.ready .any ops listed:=by
   refine mem_ready.2 ⟨?_,ops[i],z hi,λe d f=>?_⟩
   ·unfold dH at hn
    grind
   ·have a:=iZ hplan (z hi) d f
    exact c e.on a O
  grind
theorem R3{ro n}(D:s0.H.n<=N)(d:∀l,n0<=l->s0.H.get l= .dead)(k:∀l,c.E l->l<n0)(hG:c.G=I.G):∀(fuel)(f:List Nat)(listed)(m)(ρ)(r)(a) (w),
  f.length=fuel->f.Nodup->(∀i,i<ops.size->(¬ dH listed i↔i∈f))->(∀i,i∈f->i<ops.size)->Py ops al n0 N s0 E c DI listed m ρ r a w->
  wpAnyIn (WF ro) n P .any ops ((aQ.n sf).post c DI) fuel listed a w
 |0,f,listed,m,ρ,r,a,w,hl,_,F,_,h=>by
  have p:f=[]:=Y
  subst p
  have g:∀i,i<ops.size->dH listed i:=ZD
  refine⟨?_,KW hplan ht h g⟩
  cases s:Region.ready .any ops listed with
  |nil=>rfl
  |cons y R=>
   have q:y∈Region.ready .any ops listed:=by rw[s];exact k_
   obtain⟨t,o,u,_⟩:=mem_ready.1 q
   have b:=(Array.getElem?_eq_some_iff.1 u).1
   have:=g y b
   unfold dH at this
   grind
 |fuel+1,f,listed,m,ρ,r,a,w,hl,v,F,K,h=>by
  refine⟨λs=>KW hplan ht h (BF hplan ht h.size s),λy q=>?_⟩
  refine To hplan ht D d k hG h q λL ρ' x a' w' O=>?_
  obtain⟨t,o,u,_⟩:=mem_ready.1 q
  have b:=(Array.getElem?_eq_some_iff.1 u).1
  have C :¬ dH listed y:=by
   unfold dH
   rw[M,z Y]at t⊢
   simpa using t
  have Q:=(F y b).1 C
  have J:∀j,dH (listed.setIfInBounds y true) j↔j=y∨dH listed j:=λj=>by
   unfold dH
   by_cases e:j=y
   ·subst e
    simp[M,h.size,b]
   ·simp only[M,e_]
    grind
  refine R3 D d k hG fuel (f.erase y) _ L ρ' x a' w' ?_ (v.erase y) (λi hi=>?_) (λi hi=>Y) O
  all_goals grind
end
section
variable {R:Type} {X:RI R} {sem:R->Prop} (hX:X.Ok sem) {I:ba} {P:Program} (hI:I.Ok P)
include hX hI in
theorem sG(N:Nat){r:iQ R}{round:gZ R}(C:gN P I sem r)(f:hZ P I sem round){ops:Array Oper}{k:KS R}{s:St}(h:sem (drawn X I N r round ops k s)):
  ∃sf,sem (k.n sf)/\∀ro n c ρ a w,c.G=I.G->cA c ρ s a w->wpAnyIn (WF ro) n P .any ops ((aQ.n sf).post c ρ) ops.size (u_ ops.size false) a {w with drawn:=w.drawn+1}:=by
 unfold drawn at h
 cases hp:gP I ops (PM.of ops.toList {n:=0,l:=[]})&&t_ (s.H.n+ops.size) N with
 |false=>rw[hp]at h;exact zR
 |true=>
  rw[hp]at h
  simp only[bf]at hp
  obtain⟨hplan,hN⟩:=hp
  have hplan:gP I ops (bz ops)=true:=hplan
  have hN:s.H.n+ops.size<=N:=jX hN
  have U:Gj I ops (lO I 0 ops.toList):=λi o ho hc V=>by
   obtain⟨u,W,rfl⟩:=hc
   have:=tN (I:=I) (i:=0) (os:=ops.toList) (t:=i) (by simpa using ho) W V
   simpa using this
  obtain⟨s0,d⟩:∃s0,s0=s.heap (s.H.up (s.H.n+ops.size)):=⟨_,rfl⟩
  have t0:iI P I ops (bz ops) (lO I 0 ops.toList) s.H.n N s0 0 (λ_=>{ix:=0,o:=default,s:=s0,out:=.skip}) s0 :=
   ⟨λj T=>O,λj T=>O,λj T=>O,rfl,λj h v u Hh T=>O,λj h v u Hh T=>O⟩
  obtain⟨sf,E,g,ht⟩:=Gk hX hI C f U (p:=bz ops) (K:=k.n) ops.toList 0 s0 _ rfl (z_ _) t0 (by rw[d];exact h)
  refine⟨sf,g,λro n c ρ a w hG q=>?_⟩
  have D:Rel c ρ s0.H {w with drawn:=w.drawn+1}:=by
   rw[d];exact(q.heap.up (Nat.le_add_right _ _)).drawn _
  have F:s0.nt=s.nt:=by rw[d];rfl
  have J:s0.t=s.t:=by rw[d];rfl
  have L:s0.df=s.df:=by rw[d];rfl
  have ad:s0.H.n=s.H.n+ops.size:=by rw[d];rfl
  have y:∀l,s.H.n<=l->s0.H.get l= .dead:=λl hl=>by rw[d];exact q.heap.low l hl
  obtain⟨m,_,k2,k3,Y⟩:=qy E ops.size ops.size 0 O
  have e:∀i,¬ dH (u_ ops.size false) i:=λi=>by
   unfold dH
   rw[M,Array.getElem?_replicate]
   by_cases hi:i<ops.size<;>simp[hi]
  have e0:0+(m-0)=m:=O
  have Q:=nF hplan ht (m-0) 0 O λh g S=>Y h g O
  rw[e0]at Q
  refine R3 hplan ht O y (λl hl=>(q.heap.env l hl).1) hG ops.size (d_ ops.size) _ m ρ s0.H a _ zA List.nodup_range (λi hi=>?_) (λi hi=>List.mem_range.1 hi) ?_
  ·exact⟨λ_=>List.mem_range.2 hi,λ_=>e i⟩
  ·refine⟨zA,λj o _ hl=>absurd hl (e j),k2,λV=>⟨k3 V,e m⟩,λh g S=>absurd S (Y h (z_ _) g),Q.symm,O,λx _ _ hl=>absurd hl (e x),λx v b _ _ hl=>absurd hl (e x),λx hx hf _=>⟨y _ O,q.heap.top _ O⟩,λl hl=>?_,D,Ext.refl ρ,by rw[F];exact q.tmp.1,λu W=>?_,λx hx _ u _ hw=>?_,by rw[L];exact q.df⟩
   ·have:=ll hplan ht (l:=l) (m-0) 0 O (λk g S hh=>absurd hh (Y k g O)) (λa g S hf=>hl a O hf)
    rw[e0]at this
    exact this.symm
   ·have:=q.tmp.2 u
    rw[J]
    have Z:a.tmps.getD u undef=undef:=by
     rw[M,p_ (by rw[q.tmp.1,<-F];exact v_ W)]
     rfl
    rw[Z]at this
    exact this
   ·have:=qx hplan ht (u:=u) (x-0) 0 O λj g S hd=>e j (hw j O hd)
    have Z:0+(x-0)=x:=O
    rw[Z]at this
    rw[this]
    show VR ρ (cR s0.t u) _
    rw[J]
    exact q.tmp.2 u
include hX hI in
theorem KX(N:Nat):ou P I sem (drawn X I N):=by
 intro e round d b ops k s h
 obtain⟨sf,f,g⟩:=sG hX hI N d b h
 exact⟨.n sf,f,λro n c ρ a w id hG i=>wpIn_region_any hI.mixed (g ro n c ρ a w hG i)⟩
def Tp(o:Oper):Bool:=match o.op with
 | .call {callee:=.value _,..}=>true
 |_=>false
def Ea(I:ba)(ops:Array Oper):Bool :=
 match ops.back? with
 |none=>false
 |some o=>Tp o&&gP I ops (bz ops)&&gP I ops.pop (bz ops.pop)&&(d_ ops.pop.size).all (λi=>(bz ops).pre i ops.pop.size)&&
   ops.pop.toList.all (λo=>match o.guard with|none=>true|some (j,_)=>m_ j ops.pop.size)
def vQ(X:RI R)(I:ba)(N:Nat):ot R:=λa round ops k s=>
 bif Ea I ops then drawn X I N a round ops.pop {k with n:=λb=>match ops.back? with
  |some o=>l4 X I a round ops k [o] b
  |none=>X.fail} s
 else drawn X I N a round ops k s
end
end
end
end Go.Sx
