/- The proof of a statement of the seat, part 6. -/
import Derived.Test.YtoijalagmmgkbaaGreatDoorX05
set_option linter.all false
set_option linter.defProp false
set_option maxRecDepth 1000000
namespace Go.Sx
open Go
open _root_.Array renaming getD_eq_getD_getElem?->B,getElem?_eq_getElem->z,getElem?_setIfInBounds->e_,getElem?_eq_none->p_,replicate->u_,ext'->y_
open Option renaming some->a_,none->w_
open Decidable renaming decide->b_
open Bool renaming eq_false_iff->c_
open List renaming range->d_,mem_cons_of_mem->f_,mem_cons_self->k_,getElem?_cons_zero->o_
open Classical renaming byContradiction->g_
open AH renaming get_set_same->h_,eu->x_,bH->A_
open Nat renaming beq->i_,strongRecOn->l_,blt->m_,blt_eq->n_,le_trans->q_,lt_or_ge->r_,lt_of_lt_of_le->s_,ble->t_,le_of_not_lt->v_,zero_le->z_
open Function renaming comp_def->j_
noncomputable section
mutual
def AV.bD(σ:Nat->Nat):AV->AV
 | .ptr l k e j=> .ptr (σ l) k e j
 | .slice l b k len cap e=> .slice (σ l) b k len cap e
 | .own l len e=> .own (σ l) len e
 | .map (a_ l)=> .map (a_ (σ l))
 | .fn f a b=> .fn f (bt.bD σ a) (bt.bD σ b)
 | .yield l=> .yield (σ l)
 | .iface t a=> .iface t (a.bD σ)
 | .agg cs=> .agg (bt.bD σ cs)
 | .bK cs=> .bK (bt.bD σ cs)
 | .bool b=> .bool b
 | .int k n=> .int k n
 | .str s=> .str s
 | .nilPtr=> .nilPtr
 | .aw=> .aw
 | .map w_=> .map w_
 | .aB=> .aB
 | .nilIface=> .nilIface
 | .any=> .any
 | .fc cs j=> .fc cs j
 | .az len e f=> .az len e f
 | .addr b j=> .addr b j
def bt.bD(σ:Nat->Nat):List AV->List AV
 |[]=>[]
 |a::as=>a.bD σ::bt.bD σ as
end
structure uy (σ:Nat->Nat) (ρ ρ':Env):Prop where
 Pa:∀l x,ρ l=a_ x->ρ' (σ l)=a_ x
 fz:∀b vs,ρ.fz b=a_ vs->ρ'.fz b=a_ vs
instance {σ:Nat->Nat}{ρ ρ':Env}:CoeFun (uy σ ρ ρ') (λ_=> ∀l x,ρ l=a_ x->ρ' (σ l)=a_ x):=⟨uy.Pa⟩
def uy.bare{σ ρ ρ'}(h:uy σ ρ ρ'):Ext ρ.bare ρ'.bare:=⟨λ_ _ e=>zG,h.fz⟩
mutual
def VR.bD{σ:Nat->Nat}{ρ ρ':Env}(h:uy σ ρ ρ'):∀(a:AV)(v:Value),VR ρ a v->VR ρ' (a.bD σ) v
 | .bool _,_,k=>zD
 | .int _ _,_,k=>zD
 | .str _,_,k=>zD
 | .nilPtr,_,k=>zD
 | .ptr l _ _ _,v,k=>by
  simp only[VR,AV.bD]at k⊢
  obtain⟨b,N,e,r⟩:=k
  exact⟨b,N,h _ _ e,r⟩
 | .slice l _ _ _ _ _,v,k=>by
  simp only[VR,AV.bD]at k⊢
  obtain⟨b,N,c,a,e,r⟩:=k
  exact⟨b,N,c,a,h _ _ e,r⟩
 | .aw,_,k=>zD
 | .own l len e,v,k=>by
  simp only[VR,AV.bD]at k⊢
  rcases k with k|⟨b,N,c,e,r⟩
  ·exact .inl k
  ·exact .inr ⟨b,N,c,h _ _ e,r⟩
 | .map w_,_,k=>zD
 | .map (a_ l),v,k=>by
  simp only[VR,AV.bD]at k⊢
  obtain⟨b,N,e,r⟩:=k
  exact⟨b,N,h _ _ e,r⟩
 | .fn f first m,v,k=>by
  simp only[VR,AV.bD]at k⊢
  obtain⟨us,vs,e,r,s⟩:=k
  exact⟨us,vs,e,aU.bD h first us r,aU.bD h m vs s⟩
 | .yield l,v,k=>by
  simp only[VR,AV.bD]at k⊢
  obtain⟨b,N,e,r⟩:=k
  exact⟨b,N,h _ _ e,r⟩
 | .aB,_,k=>zD
 | .addr _ _,_,k=>zD
 | .nilIface,_,k=>zD
 | .iface t a,v,k=>by
  simp only[VR,AV.bD]at k⊢
  obtain⟨u,e,r⟩:=k
  exact⟨u,e,VR.bD h a u r⟩
 | .agg cs,v,k=>by
  simp only[VR,AV.bD]at k⊢
  obtain⟨vs,e,r⟩:=k
  exact⟨vs,e,aU.bD h cs vs r⟩
 | .bK cs,v,k=>by
  simp only[VR,AV.bD]at k⊢
  obtain⟨vs,e,r⟩:=k
  exact⟨vs,e,aU.bD h cs vs r⟩
 | .any,_,_=>by simp only[VR,AV.bD]
 | .fc cs j,v,hk=>by
  simp only[VR,AV.bD]at hk⊢
  obtain⟨b,q,vs,o,w,d⟩:=hk
  exact⟨b,q,vs,o,w.mono h.fz,aU.ext h.bare _ _ d⟩
 | .az len e f,v,hk=>by
  simp only[VR,AV.bD]at hk⊢
  rcases hk with hk|⟨b,q,c,a,y,o,w,d⟩
  ·exact .inl hk
  ·exact .inr ⟨b,q,c,a,y,o,w,λhl=>⟨(d hl).1,(d hl).2.1.mono h.fz,λi hi=>⟨((d hl).2.2 i hi).1,aU.ext h.bare _ _ ((d hl).2.2 i hi).2⟩⟩⟩
def aU.bD{σ:Nat->Nat}{ρ ρ':Env}(h:uy σ ρ ρ'):∀(as:List AV)(vs:List Value),aU ρ as vs->aU ρ' (bt.bD σ as) vs
 |[],_,k=>by simpa only[aU,bt.bD]using k
 |a::as,vs,k=>by
  simp only[aU,bt.bD]at k⊢
  obtain⟨u,us,e,r,s⟩:=k
  exact⟨u,us,e,VR.bD h a u r,aU.bD h as us s⟩
end
def bt.l5(σ):∀as,bt.bD σ as=as.map (AV.bD σ)
 |[]=>by simp[bt.bD]
 |a::as=>by simp[bt.bD,bt.l5 σ as]
def Tr.map{α a:Type}(f:α->a):Tr α->Tr a
 | .e=> .e
 | .n l v r=> .n (l.map f) (match v with|some x=>a_ (f x)|none=>w_) (r.map f)
def Tr.get_map{α a}(f:α->a):∀(t:Tr α)(i),(t.map f).get i=(t.get i).map f
 | .e,i=>rfl
 | .n l v r,i=>by
  simp only[Tr.map,Tr.get]
  cases i_ i 0
  ·cases i_ (i%2) 1
   ·simp only[cond_false];exact Tr.get_map f r _
   ·simp only[cond_true,cond_false];exact Tr.get_map f l _
  ·cases v<;>rfl
def Zv.bD(σ:Nat->Nat):Zv->Zv
 | .cells cs rw=> .cells (bt.bD σ cs) rw
 | .rows n e f rw=> .rows n e (λi=>bt.bD σ (f i)) rw
 | .str s rw=> .str s rw
 | .map es=> .map (es.map λx=>(x.1.bD σ,x.2.bD σ))
 | .loop a b t nt c as d df=> .loop a b (t.map (AV.bD σ)) nt c as d (σ df)
 | .tE=> .tE
 | .iter l=> .iter (σ l)
 | .iy n K=> .iy n K
 | .dX l since S=> .dX (σ l) since S
 | .cT n K Q foc=> .cT n K (λi=>(Q i).bD σ) (foc.map λx=>(x.1,x.2.bD σ))
 | .dead=> .dead
def qu(σ)(es):dL (es.map λx=>(x.1.bD σ,x.2.bD σ))=dL es:=by
 cases es with
 |nil=>rfl
 |cons e es=>
  obtain⟨a,b⟩:=e
  cases a<;>first|rfl|(rename_i x;cases x<;>rfl)
def qv(σ)(es):gK (es.map λx=>(x.1.bD σ,x.2.bD σ))=(gK es).map λx=>(x.1.bD σ,x.2.bD σ):=by
 cases es with
 |nil=>rfl
 |cons e es=>
  obtain⟨a,b⟩:=e
  cases a<;>first|rfl|(rename_i x;cases x<;>rfl)
def Zv.qw(σ)(b:Zv):(b.bD σ).rw=b.rw:=by
 cases b with
 |map es=>show(!dL (es.map λx=>(x.1.bD σ,x.2.bD σ)))=!dL es;rw[qu]
 |_=>rfl
def Zv.V6{σ}{b:Zv}:b.bD σ= .dead↔b= .dead:=by cases b<;>simp[Zv.bD]
def aJ.bD{σ:Nat->Nat}{ρ ρ':Env}(h:uy σ ρ ρ'){w:World}{o:Option (Nat×Nat)}{cs:List AV}{rw:Access}(k:aJ ρ w o cs rw):aJ ρ' w o (bt.bD σ cs) rw:=by
 rcases k with⟨rfl,k⟩|⟨b,N,vs,rest,el,fr,h1,c,d,f,a⟩
 ·exact .inl ⟨by simp[bt.bD],k⟩
 ·exact .inr ⟨b,N,vs,rest,el,fr,h1,c,d,aU.bD h _ _ f,a.1,a.2.1,λe=>h.fz _ _ (a.2.2 e)⟩
def pZ(σ)(s):bt.bD σ (byteCells s)=byteCells s:=by
 rw[bt.l5];simp[byteCells,AV.bD,j_]
def bp.bD{σ:Nat->Nat}{ρ ρ':Env}(h:uy σ ρ ρ'){w:World}{o:Option (Nat×Nat)}{b:Zv}(k:bp ρ w o b):bp ρ' w o (b.bD σ):=by
 cases b with
 |cells cs rw=>exact aJ.bD h k
 |rows n e f rw=>
  refine⟨λi hi=>by simp only[bt.l5,List.length_map];exact k.1 i hi,?_⟩
  have:=aJ.bD h k.2
  have H:bt.bD σ (rowsOf n f)=rowsOf n (λi=>bt.bD σ (f i)):=by
   simp only[bt.l5,rowsOf,List.map_flatMap]
  grind
 |str s rw=>have:=aJ.bD h (cs:=byteCells s) k;rw[pZ]at this;exact this
 |map es=>
  obtain⟨b,N,ms,y,q,v,⟨D,c,C,E,F⟩,G⟩:=k
  refine⟨b,N,ms,y,q,v,⟨D,?_,?_,by rw[qu];exact E,F⟩,λe=>G (by simpa using e)⟩
  ·have:=aU.bD h _ _ c
   rw[qv]
   simpa [bt.l5,j_]using this
  ·have:=aU.bD h _ _ C
   rw[qv]
   simpa [bt.l5,j_]using this
 |loop I J t nt L as O df=>
  obtain⟨b,N,d,M,fn,vs,q,v,c,C⟩:=k
  refine⟨b,N,d,M,fn,vs,q,h _ _ v,⟨c.1,λi=>?_⟩,C⟩
  have:=VR.bD h _ _ (c.2 i)
  unfold cR at this⊢
  rw[Tr.get_map]
  cases ht:t.get i with
  |none=>simp[VR]
  |some a=>rw[ht]at this;simpa using this
 |tE=>exact k
 |iter l=>
  obtain⟨b,N,m,M,since,last,q,v,c⟩:=k
  exact⟨b,N,m,M,since,last,q,h _ _ v,c⟩
 |iy n K=>exact k
 |dX l since S=>
  obtain⟨b,N,m,M,q,v,c⟩:=k
  exact⟨b,N,m,M,q,h _ _ v,c⟩
 |cT n K Q foc=>
  obtain⟨b,N,u,q,v,c,C⟩:=k
  refine⟨b,N,u,q,v,λi hi=>VR.bD h _ _ (c i hi),λj a e=>?_⟩
  cases foc with
  |none=>cases e
  |some x=>cases e;exact⟨(C _ _ A).1,VR.bD h _ _ (C _ _ A).2⟩
 |dead=>trivial
def AH.blank(N:Nat):AH:={n:=N,t:=.e}
def AH.up(H:AH)(N:Nat):AH:={n:=N,t:=H.t}
def Rel.up{c ρ H w}(h:Rel c ρ H w){N}(hN:H.n<=N):Rel c ρ (H.up N) w :=
 ⟨h.dF,h.sep,h.gL,h.gH,h.size,h.os,h.output,h.tape,λl hl=>h.top l (q_ hN hl),h.fp,h.hid,λl hl=>⟨s_ (h.env l hl).1 hN,(h.env l hl).2⟩,λl hl=>h.low l (q_ hN hl),h.qY,h.pV,h.ZN,h.qZ⟩
def zS.blank(c:zS)(ρ:Env)(H:AH)(w:World)(N:Nat):zS:=c.xN ρ (H.up N) w λ_=>True
def Rel.blank{c ρ H w}(h:Rel c ρ H w){N}(hN:H.n<=N):Rel (c.blank ρ H w N) ρ (.blank N) w :=
 (h.up hN).xN (HM:=.blank N) A λ_=> .inl ⟨trivial,rfl⟩
def Rel.Th{c ρ ρ' H H' w w'}(h:Rel c ρ H w){N}(hN:H.n<=N)(d:Rel (c.blank ρ H w N) ρ' H' w')(f:H'.n=N):Ext ρ ρ'/\Rel c ρ' H w':=by
 obtain⟨i,a⟩:=(h.up hN).KH (H2:=H.up N) d f.symm zA
 refine⟨i,⟨a.dF,a.sep,a.gL,a.gH,a.size,a.os,a.output,a.tape,λl hl=>?_,a.fp,a.hid,λl hl=>?_,h.low,a.qY,a.pV,a.ZN,a.qZ⟩⟩
 ·by_cases b:l<N
  ·rw[(d.env l b).2];exact h.top l hl
  ·exact a.top l (v_ b)
 ·obtain⟨j,m⟩:=h.env l hl
  exact⟨j,(a.env l hl).2⟩
def kw(N ℓ:Nat)(i:Nat):Nat:=bif i_ i N then ℓ else i
def D7(N ℓ):kw N ℓ N=ℓ:=by simp[kw]
def KQ{N ℓ i}(h:i≠N):kw N ℓ i=i:=by
 have:i_ i N=false:=by rw[c_];intro e;exact ZD
 simp[kw,this]
def Rel.Ti{c:zS}{ρ ρ':Env}{H H':AH}{w w':World}(h:Rel c ρ H w){N:Nat}(hN:H.n<=N)(m:Rel (c.blank ρ H w N) ρ' H' w')(hn:H'.n=N+1){ℓ:Nat}(hℓ:ℓ<H.n)(R:H.get ℓ= .dead)(T:ρ ℓ=w_)(U :¬ c.E ℓ):
  ∃f,(∀l,l≠ℓ->f l=ρ l)/\Ext ρ f/\uy (kw N ℓ) ρ' f/\Rel c f (H.set ℓ ((H'.get N).bD (kw N ℓ))) w':=by
 have dj:∀{b:Zv},b.rw=true->b≠ .dead:=λh e=>by rw[e]at h;cases h
 obtain⟨f,t⟩:∃f:Env,f=⟨λi=>if i=ℓ then ρ' N else ρ i,ρ'.fz⟩:=⟨_,rfl⟩
 have q:f.fz=ρ'.fz:=by rw[t]
 have o:f ℓ=ρ' N:=by rw[t];simp
 have off:∀l,l≠ℓ->f l=ρ l:=ZD
 have hx:Ext ρ f:=by
  refine⟨λl x e=>?_,λk vs e=>by rw[q];exact m.qZ k vs e⟩
  have:l≠ℓ:=λI=>Y
  rw[off l this];exact e
 have u:uy (kw N ℓ) ρ' f:=by
  refine⟨λl x e=>?_,ZD⟩
  by_cases d:l=N
  ·subst d;rw[D7,o];exact e
  ·rw[KQ d]
   have L:l<N:=by
    refine Nat.lt_of_not_le λV=>?_
    have:ρ' l=w_:=m.top l O
    rw[this]at e;cases e
   have S:=(m.env l L).2
   have:l≠ℓ:=λI=>by
    subst I
    rw[S]at e
    change ρ l=a_ x at e
    rw[T]at e;cases e
   rw[off l this,<-e]
   exact S.symm
 have v:∀l r M,H.get l≠ .dead->ρ l=a_ (r,M)->(c.blank ρ H w N).Z r∨(c.blank ρ H w N).X r:=λl r M R d=>by
  cases a:(H.get l).rw with
  |true=>exact .inr (.inr ⟨l,M,trivial,a,d⟩)
  |false=>exact .inl (.inr ⟨l,M,trivial,R,a,d⟩)
 have y:∀l,l≠ℓ->(H.set ℓ ((H'.get N).bD (kw N ℓ))).get l=H.get l:=λl hl=>x_ _ _ (λe=>hl e.symm)
 have gs:(H.set ℓ ((H'.get N).bD (kw N ℓ))).get ℓ=(H'.get N).bD (kw N ℓ):=h_ _ _ _
 have P:w.heap.size<=w'.heap.size:=m.size
 refine⟨f,off,hx,u,λl=>?_,λl C r M Q J a d D=>?_,λl r M a d s=>?_,λk K=>?_,q_ h.size P,m.os.trans h.os,m.output.trans h.output,m.tape.trans h.tape,λl hl=>?_,λg W=>?_,λl r M j d s=>?_,λl hl=>?_,λl hl=>?_,λk vs e=>m.qY k vs (by rw[<-q];exact e),λl r M a d=>?_,λk K=>by rw[q];exact m.ZN k (.inl K),λk vs e=>by rw[q];exact m.qZ k vs (h.qZ k vs e)⟩
 ·by_cases e:l=ℓ
  ·subst e;rw[gs,o];exact bp.bD u (m.dF N)
  ·rw[y l e,off l e]
   by_cases j:H.get l= .dead
   ·rw[j];trivial
   ·exact bp.world (λr M e=>(m.gH r (v l r M j e)).2) ((h.dF l).ext hx)
 ·by_cases e:l=ℓ
  ·subst e
   have F:C≠l:=λe=>J e.symm
   rw[gs,Zv.qw]at a
   rw[o]at d
   rw[off C F]at D
   rw[y C F]
   apply g_
   intro j
   rcases v C r Q j D with s|s
   ·exact m.gL N r M a d s
   ·exact m.hid N r M (dj a) d s
  ·rw[y l e]at a
   rw[off l e]at d
   by_cases I:C=ℓ
   ·subst I
    rw[gs]
    rw[o]at D
    apply g_
    intro j
    exact m.hid N r Q (λe=>j (by rw[e];rfl)) D (.inr ⟨l,M,trivial,a,d⟩)
   ·rw[off C I]at D
    rw[y C I]
    exact h.sep l C r M Q J a d D
 ·by_cases e:l=ℓ
  ·subst e
   rw[gs,Zv.qw]at a
   rw[o]at d
   exact m.gL N r M a d (.inl s)
  ·rw[y l e]at a
   rw[off l e]at d
   exact h.gL l r M a d s
 ·obtain⟨d,D⟩:=h.gH k K
  exact⟨d,((m.gH k (K.imp .inl .inl)).2).trans D⟩
 ·have G:H.n<=l:=hl
  rw[off l O];exact h.top l G
 ·obtain⟨M,hM⟩:=h.fp g W
  grind
 ·by_cases e:l=ℓ
  ·subst e
   rw[gs]at j
   rw[o]at d
   exact m.hid N r M (λe=>j (by rw[e];rfl)) d (.inl s)
  ·rw[y l e]at j
   rw[off l e]at d
   exact h.hid l r M j d s
 ·obtain⟨e1,e2⟩:=h.env l hl
  have:l≠ℓ:=λe=>U (e▸hl)
  simp_all
 ·have G:H.n<=l:=hl
  rw[y l O];exact h.low l G
 ·rw[q]
  by_cases e:l=ℓ
  ·subst e
   rw[gs,Zv.qw]at a
   rw[o]at d
   exact m.pV N r M a d
  ·rw[y l e]at a
   rw[off l e]at d
   exact m.ZN r (.inr ⟨l,M,trivial,a,d⟩)
section
mutual
def AV.beq:AV->AV->Bool
 | .bool a,.bool b=>a==b
 | .int k x,.int v y=>b_ (k=v)&&b_ (x=y)
 | .str s,.str t=>b_ (s=t)
 | .ptr a b c d,.ptr a' h l o=>b_ (a=a')&&b_ (b=h)&&b_ (c=l)&&b_ (d=o)
 | .nilPtr,.nilPtr=>true
 | .slice a b c d e f,.slice a' h l o q m=>b_ (a=a')&&b_ (b=h)&&b_ (c=l)&&b_ (d=o)&&b_ (e=q)&&b_ (f=m)
 | .aw,.aw=>true
 | .own a b c,.own a' h l=>b_ (a=a')&&b_ (b=h)&&b_ (c=l)
 | .map a,.map b=>b_ (a=b)
 | .fn f a b,.fn m a' h=>b_ (f=m)&&bt.beq a a'&&bt.beq b h
 | .yield a,.yield b=>b_ (a=b)
 | .aB,.aB=>true
 | .nilIface,.nilIface=>true
 | .iface t a,.iface w a'=>b_ (t=w)&&a.beq a'
 | .agg a,.agg b=>bt.beq a b
 | .bK a,.bK b=>bt.beq a b
 | .any,.any=>true
 | .fc cs j,.fc u C=>bt.beq cs u&&b_ (j=C)
 | .addr a b,.addr a' h=>b_ (a=a')&&b_ (b=h)
 | .az n e f,.az D q m=>b_ (n=D)&&b_ (e=q)&&(d_ n).all λi=>bt.beq (f i) (m i)
 |_,_=>false
def bt.beq:List AV->List AV->Bool
 |[],[]=>true
 |a::as,b::E=>a.beq b&&bt.beq as E
 |_,_=>false
end
mutual
theorem AV.fH{ρ:Env}:∀(a b:AV)(v:Value),a.beq b=true->VR ρ b v->VR ρ a v
 | .fn f x y,b,v,h,d=>by
  cases b<;>simp only[AV.beq,kH,bf,bn]at h
  obtain⟨⟨rfl,m⟩,o⟩:=h
  simp only[VR]at d⊢
  obtain⟨us,vs,rfl,l,s⟩:=d
  exact⟨us,vs,rfl,bt.fH x _ _ m l,bt.fH y _ _ o s⟩
 | .iface t a,b,v,h,d=>by
  cases b<;>simp only[AV.beq,kH,bf,bn]at h
  obtain⟨rfl,m⟩:=h
  simp only[VR]at d⊢
  obtain⟨u,rfl,l⟩:=d
  exact⟨u,rfl,AV.fH a _ _ m l⟩
 | .agg as,b,v,h,d=>by
  cases b<;>simp only[AV.beq,kH]at h
  simp only[VR]at d⊢
  obtain⟨us,rfl,l⟩:=d
  exact⟨us,rfl,bt.fH as _ _ h l⟩
 | .bK as,b,v,h,d=>by
  cases b<;>simp only[AV.beq,kH]at h
  simp only[VR]at d⊢
  obtain⟨us,rfl,l⟩:=d
  exact⟨us,rfl,bt.fH as _ _ h l⟩
 | .fc cs j,b,v,h,d=>by
  cases b<;>simp only[AV.beq,kH,bf,bn]at h
  obtain⟨m,rfl⟩:=h
  simp only[VR]at d⊢
  obtain⟨b,q,vs,rfl,l,s⟩:=d
  exact⟨b,q,vs,rfl,l,bt.fH cs _ _ m s⟩
 | .az n e f,b,v,h,d=>by
  cases b<;>simp only[AV.beq,kH,bf,bn,List.all_eq_true]at h
  obtain⟨⟨rfl,rfl⟩,m⟩:=h
  simp only[VR]at d⊢
  rcases d with d|⟨b,q,c,a,w,rfl,o,l⟩
  ·exact .inl d
  ·exact .inr ⟨b,q,c,a,w,rfl,o,λhl=>⟨(l hl).1,(l hl).2.1,λi hi=>⟨((l hl).2.2 i hi).1,bt.fH (f i) _ _ (m i (List.mem_range.2 hi)) ((l hl).2.2 i hi).2⟩⟩⟩
 | .addr _ _,b,v,h,d=>by cases b<;>simp only[AV.beq,kH,bf,bn,beq_iff_eq]at h<;>simp_all
 | .bool _,b,v,h,d=>by cases b<;>simp only[AV.beq,kH,bf,bn,beq_iff_eq]at h<;>simp_all
 | .int _ _,b,v,h,d=>by cases b<;>simp only[AV.beq,kH,bf,bn,beq_iff_eq]at h<;>simp_all
 | .str _,b,v,h,d=>by cases b<;>simp only[AV.beq,kH,bf,bn,beq_iff_eq]at h<;>simp_all
 | .ptr _ _ _ _,b,v,h,d=>by cases b<;>simp only[AV.beq,kH,bf,bn,beq_iff_eq]at h<;>simp_all
 | .nilPtr,b,v,h,d=>by cases b<;>simp only[AV.beq,kH,bf,bn,beq_iff_eq]at h<;>simp_all
 | .slice _ _ _ _ _ _,b,v,h,d=>by cases b<;>simp only[AV.beq,kH,bf,bn,beq_iff_eq]at h<;>simp_all
 | .aw,b,v,h,d=>by cases b<;>simp only[AV.beq,kH,bf,bn,beq_iff_eq]at h<;>simp_all
 | .own _ _ _,b,v,h,d=>by cases b<;>simp only[AV.beq,kH,bf,bn,beq_iff_eq]at h<;>simp_all
 | .map _,b,v,h,d=>by cases b<;>simp only[AV.beq,kH,bf,bn,beq_iff_eq]at h<;>simp_all
 | .yield _,b,v,h,d=>by cases b<;>simp only[AV.beq,kH,bf,bn,beq_iff_eq]at h<;>simp_all
 | .aB,b,v,h,d=>by cases b<;>simp only[AV.beq,kH,bf,bn,beq_iff_eq]at h<;>simp_all
 | .nilIface,b,v,h,d=>by cases b<;>simp only[AV.beq,kH,bf,bn,beq_iff_eq]at h<;>simp_all
 | .any,b,v,h,d=>by cases b<;>simp only[AV.beq,kH,bf,bn,beq_iff_eq]at h<;>simp_all
theorem bt.fH{ρ:Env}:∀(a b:List AV)(vs:List Value),bt.beq a b=true->aU ρ b vs->aU ρ a vs
 |[],[],_,_,h=>h
 |a::as,b::C,vs,h,d=>by
  simp only[bt.beq,bf]at h
  simp only[aU]at d⊢
  obtain⟨u,us,rfl,m,o⟩:=d
  exact⟨u,us,rfl,AV.fH _ _ _ h.1 m,bt.fH _ _ _ h.2 o⟩
 |[],_::_,_,h,_=>by simp[bt.beq]at h
 |_::_,[],_,h,_=>by simp[bt.beq]at h
end
section
variable {R:Type} (X:RI R) (I:ba)
def Vw(o:Oper)(ev:Operand->AV)(H:AH)(K:AV->R):R :=
 match o.op with
 | .load t a=>yf X I t H (ev a) K
 | .slice t x lo hi mx=>PH X I t (ev x) (lo.map ev) (hi.map ev) (mx.map ev) H K
 | .lookup t x i ok=>q9 X I t (ev x) (ev i) ok H K
 | .convert s d x=>match I.dI s,I.dI d with
  |some (.slice e),a_ .string=>PI X I e (ev x) H K
  |_,_=>X.fail
 | .call {callee:=.builtin .len,args,argTypes}=>match args.toList,argTypes.toList with
  |[x],[t]=>Pg X I t (ev x) H K
  |_,_=>X.fail
 |_=>X.fail
def eE(P:Program)(o:Oper)(ev:Operand->AV)(M:AH)(v:AV):Prop :=
 (∀c,o.op≠ .defer c)/\∀c ρ w (e:Operand->Value),(∀x,VR ρ (ev x) (e x))->Rel c ρ M w->∃u,(execOp e o).run P w= .ok (.value u) w/\VR ρ v u
inductive YN where
 |gz|reader|vK
def Vx(o:Oper):YN :=
 match o.op with
 | .load .. | .slice .. | .lookup .. => .reader
 | .convert s _ _=>match I.dI s with
  |some (.slice _)=> .reader
  |_=> .vK
 | .store .. | .mapUpdate .. | .insert .. | .mapEntry .. | .entryStore .. | .panic _=> .gz
 | .call c=>match c.callee with
  | .builtin .len=> .reader
  | .builtin .min| .builtin .max=> .vK
  |_=> .gz
 |_=> .vK
def sD(o:Oper):Bool :=
 match o.op with
 | .alloc _| .box .. | .buildSlice .. | .makeMap .. | .makeSlice .. | .convert .. =>true
 |_=>false
def V7{α:Type}(n:Nat)(K:Nat->α): α:=match n with|0=>K 0|m+1=>K (m+1)
theorem HX{α}(n)(K:Nat->α):V7 n K=K n:=by cases n<;>rfl
structure PM where
 n:Nat
 l:List Nat
def PM.at(p:PM)(j:Nat):Nat:=p.l.getD (p.n-1-j) 0
def PM.pre(p:PM)(i j:Nat):Bool:=(p.at j).testBit i
def Ls(p:PM)(a:List Edge):Nat:=a.foldl (λs e=>bif Region.binds .any e then s ||| 2^e.on ||| p.at e.on else s) 0
def PM.of:List Oper->PM->PM
 |[],p=>p
 |o::os,p=>V7 (Ls p o.after.toList) λm=>PM.of os {n:=p.n+1,l:=m::p.l}
def D8(o:Oper):List Tmp:=o.op.operands.toList.filterMap (λ| .tmp t=>a_ t|_=>w_)
def sE:List Nat->Nat->Bool
 |[],_=>false
 |a::as,x=>bif i_ a x then true else sE as x
theorem vL:∀{l x},sE l x=true↔x∈l
 |[],x=>by simp[sE]
 |a::as,x=>by
  simp only[sE]
  cases h:i_ a x with
  |true=>simp_all
  |false=>
   have b :¬ x=a:=λe=>ZD
   simp only[cond_false,List.mem_cons,b,false_or]
   exact vL
def St.lk(G:Nat)(s:St)(o:Oper):Operand->AV
 | .tmp i=>bif sE (D8 o) i then cR s.t i else .any
 |x=>s.ev G x
def gA(ops:Array Oper)(o:Oper):List Tmp :=
 o.dst.toList++D8 o++(match o.guard with|some (j,_)=>(match(ops[j]?).bind (·.dst)with|some d=>[d]|none=>[])|none=>[])
def gB(o:Oper):Bool:=match Vx I o with| .gz=>true|_=>false
def gP(ops:Array Oper)(p:PM):Bool :=
  (ops.toList.zipIdx.all λx => x.1.after.toList.all λe => !Region.binds .any e || m_ e.on x.2) &&
  (ops.toList.zipIdx.all λx => ops.toList.zipIdx.all λy =>
    !Nat.blt y.2 x.2 ||
      ((!(gB I x.1 && gB I y.1) || p.pre y.2 x.2) &&
       ((match y.1.dst with|some d => !(gA ops x.1).contains d|none => true) || p.pre y.2 x.2) &&
       ((match x.1.dst with|some d => !(gA ops y.1).contains d|none => true) || p.pre y.2 x.2)))
inductive Out where
 |skip
 |pure (a:AV)
 |fresh (a:AV) (b:Zv)
 |read (a:AV)
 |gz (a:AV) (H:AH)
structure jI where
 ix:Nat
 o:Oper
 s:St
 out:Out
def jI.next(n0:Nat)(e:jI):St :=
 match e.out with
 | .skip=>e.s.put e.o.dst (.bK [])
 | .pure v=>e.s.put e.o.dst v
 | .read v=>e.s.put e.o.dst v
 | .fresh v b=>(e.s.heap (e.s.H.set (n0+e.ix) b)).put e.o.dst v
 | .gz v H=>(e.s.heap H).put e.o.dst v
def gQ(p:PM)(n0 i:Nat):List Nat->AH->AH
 |[],H=>H
 |a::as,H=>bif p.pre a i then gQ p n0 i as H else(gQ p n0 i as H).set (n0+a) .dead
def ff(p:PM)(n0 i:Nat)(H:AH):List Nat->AH->AH
 |[],H'=>H'
 |a::as,H'=>bif p.pre a i then ff p n0 i H as H' else(ff p n0 i H as H').set (n0+a) (H.get (n0+a))
def po(p:PM)(al:List Nat)(n0 i:Nat)(o:Oper)(ev:Operand->AV)(v:AV)(K:R):List jI->R
 |[]=>K
 |e::es=>match e.out with
  | .gz _ _=>bif p.pre e.ix i then po p al n0 i o ev v K es
   else Vw X I o ev (gQ p n0 i al e.s.H) λa=>X.ak (v.beq a) (po p al n0 i o ev v K es)
  |_=>po p al n0 i o ev v K es
def pp(p:PM)(al:List Nat)(n0 h:Nat)(H:AH)(K:R):List jI->R
 |[]=>K
 |e::es=>match e.out with
  | .read v=>bif p.pre e.ix h then pp p al n0 h H K es
   else Vw X I e.o (e.s.lk I.G e.o) (gQ p n0 e.ix al H) λa=>X.ak (v.beq a) (pp p al n0 h H K es)
  |_=>pp p al n0 h H K es
def Gi(b:iQ R)(round:gZ R)(p:PM)(al:List Nat)(n0 N i:Nat)(tr:List jI)(o:Oper)(s:St)(a:jI->R):R :=
 match Vx I o with
 | .vK=>DW X I o (s.lk I.G o) (.blank N) λv H'=>
   bif i_ H'.n N then a {ix:=i,o,s,out:=.pure v}
   else bif i_ H'.n (N+1)&&sD o then a {ix:=i,o,s,out:=.fresh (v.bD (kw N (n0+i))) ((H'.get N).bD (kw N (n0+i)))}
   else X.fail
 | .reader=>Vw X I o (s.lk I.G o) (gQ p n0 i al s.H) λv=>po X I p al n0 i o (s.lk I.G o) v (a {ix:=i,o,s,out:=.read v}) tr
 | .gz=>Pq X I b round o (s.lk I.G o) (gQ p n0 i al s.H) (λv H'=>bif t_ H'.n N then pp X I p al n0 i (ff p n0 i s.H al H') (a {ix:=i,o,s,out:=.gz v (ff p n0 i s.H al H')}) tr else X.fail) (λ_ _=>X.fail)
def vM(a:iQ R)(round:gZ R)(ops:Array Oper)(p:PM)(al:List Nat)(n0 N:Nat)(K:St->R):List Oper->Nat->List jI->St->R
 |[],_,_,s=>K s
 |o::rest,i,tr,s=>
  match o.guard with
  |none=>Gi X I a round p al n0 N i tr o s λe=>vM a round ops p al n0 N K rest (i+1) (e::tr) (e.next n0)
  |some (j,want)=>
   match(ops[j]?).bind (·.dst)with
   |none=>X.fail
   |some d=>
    match cR s.t d with
    | .bool b=>
     let run (s:St):=Gi X I a round p al n0 N i tr o s λe=>vM a round ops p al n0 N K rest (i+1) (e::tr) (e.next n0)
     let skip (s:St):=vM a round ops p al n0 N K rest (i+1) ({ix:=i,o,s,out:=.skip}::tr) (jI.next n0 {ix:=i,o,s,out:=.skip})
     X.cond b (λ_=>(bif want then run else skip) (s.put (a_ d) (.bool true))) (λ_=>(bif want then skip else run) (s.put (a_ d) (.bool false)))
    | .bK []=>vM a round ops p al n0 N K rest (i+1) ({ix:=i,o,s,out:=.skip}::tr) (jI.next n0 {ix:=i,o,s,out:=.skip})
    |_=>X.fail
def lO:Nat->List Oper->List Nat
 |_,[]=>[]
 |i,o::os=>bif (match Vx I o with| .vK=>sD o|_=>false)then i::lO (i+1) os else lO (i+1) os
def drawn(N:Nat):ot R:=λa round ops k s=>
 bif gP I ops (PM.of ops.toList {n:=0,l:=[]})&&t_ (s.H.n+ops.size) N then
  vM X I a round ops (PM.of ops.toList {n:=0,l:=[]}) (lO I 0 ops.toList) s.H.n N k.n ops.toList 0 [] (s.heap (s.H.up (s.H.n+ops.size)))
 else X.fail
end
section
variable {R:Type} {X:RI R} {sem:R->Prop} (hX:X.Ok sem) {I:ba} {P:Program} (hI:I.Ok P)
include hX hI in
theorem D9{o:Oper}{ev:Operand->AV}{H:AH}{K:AV->R}(h:sem (Vw X I o ev H K)):∃v,sem (K v)/\eE P o ev H v:=by
 unfold Vw at h
 split at h
 ·rename_i t a f
  obtain⟨b,j,k⟩:=vf hX hI h
  refine⟨b,j,by simp[f],λc ρ w e g l=>?_⟩
  obtain⟨v,m,n⟩:=k c ρ w (e a) (g a) l
  exact⟨v,by simp[execOp,f,m],n⟩
 ·rename_i t x lo hi mx f
  obtain⟨b,j,k⟩:=yi hX hI H h
  refine⟨b,j,by simp[f],λc ρ w e g l=>?_⟩
  obtain⟨u,m,n⟩:=k c ρ w (e x) (lo.map e) (hi.map e) (mx.map e) (g x) (kW g lo) (kW g hi) (kW g mx) l
  exact⟨u,by simp[execOp,f,m],n⟩
 ·rename_i t x i ok f
  obtain⟨b,j,k⟩:=tH hX hI h
  refine⟨b,j,by simp[f],λc ρ w e g l=>?_⟩
  obtain⟨u,m,n⟩:=k c ρ w (e x) (e i) (g x) (g i) l
  exact⟨u,by simp[execOp,f,m],n⟩
 ·rename_i s d x f
  split at h
  ·rename_i e q r
   obtain⟨b,j,k⟩:=yj hX hI q r h
   refine⟨b,j,by simp[f],λc ρ w e g l=>?_⟩
   obtain⟨u,m,n⟩:=k c ρ w (e x) (g x) l
   exact⟨u,by simp[execOp,f,m],n⟩
  ·exact zR
 ·rename_i args y f
  split at h
  ·rename_i x t hx ht
   have ha:args= #[x]:=by apply y_;simpa using hx
   have p:y= #[t]:=by apply y_;simpa using ht
   subst ha p
   obtain⟨b,j,k⟩:=Ga hX hI h #[t] rfl o.type
   refine⟨b,j,by simp[f],λc ρ w e g l=>?_⟩
   obtain⟨u,m,n⟩:=k c ρ w (e x) (g x) l
   exact⟨u,by simp[execOp,f,resolve,invoke,builtin,m],n⟩
  ·exact zR
 ·exact zR
end
end
section
def yw(P:Program)(o:Oper)(ev:Operand->AV)(N:Nat)(v:AV)(H':AH):Prop :=
 (∀c,o.op≠ .defer c)/\∀c ρ w (e:Operand->Value),(∀x,VR ρ (ev x) (e x))->Rel c ρ (.blank N) w->iO P (execOp e o) c ρ w v H'
def pq(ops:Array Oper)(e:jI):Prop :=
 e.o.guard=w_∨∃j a d,e.o.guard=a_ (j,a)/\(ops[j]?).bind (·.dst)=a_ d/\cR e.s.t d= .bool a
def Z0(ops:Array Oper)(e:jI):Prop :=
 ∃j a d,e.o.guard=a_ (j,a)/\(ops[j]?).bind (·.dst)=a_ d/\(cR e.s.t d= .bool (!a)∨cR e.s.t d= .bK [])
structure jh (s s':St):Prop where
 nt:s'.nt=s.nt
 H:s'.H=s.H
 df:s'.df=s.df
 t:∀a,cR s'.t a=cR s.t a
theorem jh.refl(s):jh s s:=⟨rfl,rfl,rfl,λ_=>rfl⟩
theorem jh.lit{s d b}(h:cR s.t d= .bool b):jh s (s.put (a_ d) (.bool b)):=by
 simp only[St.put]
 cases m_ d s.nt with
 |true=>
  refine⟨rfl,rfl,rfl,λu=>?_⟩
  simp only[cond_true]
  rw[oo]
  grind
 |false=>exact jh.refl s
section
variable (P:Program) (I:ba) (ops:Array Oper) (p:PM) (al:List Nat) (n0 N:Nat) (s0:St)
def KU(e:jI):Prop :=
 ops[e.ix]? =a_ e.o/\
 match e.out with
 | .skip=>Z0 ops e
 | .pure v=>pq ops e/\gB I e.o=false/\∃H',H'.n=N/\yw P e.o (e.s.lk I.G e.o) N v H'
 | .fresh v b=>pq ops e/\gB I e.o=false/\e.ix∈al/\∃a H',H'.n=N+1/\yw P e.o (e.s.lk I.G e.o) N a H'/\v=a.bD (kw N (n0+e.ix))/\b=(H'.get N).bD (kw N (n0+e.ix))
 | .read v=>pq ops e/\gB I e.o=false/\eE P e.o (e.s.lk I.G e.o) (gQ p n0 e.ix al e.s.H) v
 | .gz v H2=>pq ops e/\gB I e.o=true/\∃H',rj P I e.o (e.s.lk I.G e.o) (gQ p n0 e.ix al e.s.H) (.ret v H')/\H2=ff p n0 e.ix e.s.H al H'/\H'.n<=N
def fI(E:Nat->jI):Nat->St
 |0=>s0
 |j+1=>(E j).next n0
structure iI (i:Nat) (E:Nat->jI) (s:St):Prop where
 ix:∀a,a<i->(E a).ix=a
 ok:∀a,a<i->KU P I ops p al n0 N (E a)
 same:∀a,a<i->jh (fI n0 s0 E a) (E a).s
 last:s=fI n0 s0 E i
 back:∀a h c b Hh,a<i->h<a->(E a).out= .read c->(E h).out= .gz b Hh->p.pre h a=false->eE P (E a).o ((E a).s.lk I.G (E a).o) (gQ p n0 a al (E h).s.H) c
 R1:∀a h c b Hh,h<i->a<h->(E a).out= .read c->(E h).out= .gz b Hh->p.pre a h=false->eE P (E a).o ((E a).s.lk I.G (E a).o) (gQ p n0 a al Hh) c
end
section
variable {P:Program} {I:ba} {ops:Array Oper} {p:PM} {al:List Nat} {n0 N:Nat} {s0:St}
theorem vN{E a i}(h:∀j,j<i->a j=E j):fI n0 s0 a i=fI n0 s0 E i:=by
 cases i with
 |zero=>rfl
 |succ i=>simp only[fI];grind
theorem iI.snoc{i E s}(h:iI P I ops p al n0 N s0 i E s)(e)(hi:e.ix=i)(C:KU P I ops p al n0 N e)(y:jh s e.s)
  (D:∀h v u b,h<i->e.out= .read v->(E h).out= .gz u b->p.pre h i=false->eE P e.o (e.s.lk I.G e.o) (gQ p n0 i al (E h).s.H) v)
  (F:∀j v u b,j<i->(E j).out= .read v->e.out= .gz u b->p.pre j i=false->eE P (E j).o ((E j).s.lk I.G (E j).o) (gQ p n0 j al b) v):
  ∃a,(∀j,j<i->a j=E j)/\a i=e/\iI P I ops p al n0 N s0 (i+1) a (e.next n0):=by
 obtain⟨a,t⟩:∃a:Nat->jI,a=λj=>if j=i then e else E j:=⟨_,rfl⟩
 have c:a i=e:=by rw[t];simp
 have off:∀j,j<i->a j=E j:=λj d=>Y
 refine⟨a,off,c,λj d=>?_,λj d=>?_,λj d=>?_,?_,λj k v u b d f l m w=>?_,λj k v u b f d l m w=>?_⟩
 ·by_cases q:j=i
  grind
  ·rw[off j O];exact h.ix j O
 ·by_cases q:j=i
  grind
  ·rw[off j O];exact h.ok j O
 ·by_cases q:j=i
  ·subst q
   rw[c,vN (λk f=>off k f),<-h.last]
   exact y
  ·rw[off j O,vN (λk f=>off k O)]
   exact h.same j O
 ·simp only[fI,c]
 ·by_cases q:j=i
  grind
  ·rw[off j O]at l⊢
   rw[off k O]at m⊢
   exact h.back j k v u b O f l m w
 ·by_cases q:k=i
  grind
  ·rw[off j O]at l⊢
   rw[off k O]at m
   exact h.R1 j k v u b O d l m w
end
section
variable {R:Type} {X:RI R} {sem:R->Prop} (hX:X.Ok sem) {I:ba} {P:Program} (hI:I.Ok P)
theorem eE.beq{P o ev M v a}(h:eE P o ev M a)(b:v.beq a=true):eE P o ev M v :=
 ⟨h.1,λc ρ w e d f=>by
  obtain⟨u,i,j⟩:=h.2 c ρ w e d f
  exact⟨u,i,AV.fH _ _ _ b j⟩⟩
include hX hI in
theorem nC{p:PM}{al:List Nat}{n0 i:Nat}{o:Oper}{ev:Operand->AV}{v:AV}{K:R}:∀{m:List jI},sem (po X I p al n0 i o ev v K m)->
  sem K/\∀e∈m,∀u n,e.out= .gz u n->p.pre e.ix i=false->eE P o ev (gQ p n0 i al e.s.H) v
 |[],h=>⟨h,λe q=>by cases q⟩
 |e::m,h=>by
  simp only[po]at h
  split at h
  ·rename_i u n f
   cases hp:p.pre e.ix i with
   |true=>
    rw[hp]at h
    obtain⟨j,g⟩:=nC h
    refine⟨j,λk a l d c b=>?_⟩
    rcases List.mem_cons.1 a with rfl|a
    ·rw[hp]at b;cases b
    ·exact g k a l d c b
   |false=>
    rw[hp]at h
    obtain⟨y,j,g⟩:=D9 hX hI h
    obtain⟨r,t⟩:=hX.ak _ _ j
    have g:=g.beq r
    obtain⟨w,x⟩:=nC t
    refine⟨w,λk a l d c b=>?_⟩
    rcases List.mem_cons.1 a with rfl|a
    ·exact g
    ·exact x k a l d c b
  ·rename_i f
   obtain⟨j,g⟩:=nC h
   refine⟨j,λk a l d c b=>?_⟩
   rcases List.mem_cons.1 a with rfl|a
   ·exact absurd c (f _ _)
   ·exact g k a l d c b
include hX hI in
theorem nD{p:PM}{al:List Nat}{n0 k:Nat}{H:AH}{K:R}:∀{l:List jI},sem (pp X I p al n0 k H K l)->
  sem K/\∀e∈l,∀v,e.out= .read v->p.pre e.ix k=false->eE P e.o (e.s.lk I.G e.o) (gQ p n0 e.ix al H) v
 |[],h=>⟨h,λe m=>by cases m⟩
 |e::l,h=>by
  simp only[pp]at h
  split at h
  ·rename_i v d
   cases hp:p.pre e.ix k with
   |true=>
    rw[hp]at h
    obtain⟨i,f⟩:=nD h
    refine⟨i,λj a g b c=>?_⟩
    rcases List.mem_cons.1 a with rfl|a
    ·rw[hp]at c;cases c
    ·exact f j a g b c
   |false=>
    rw[hp]at h
    obtain⟨g,i,f⟩:=D9 hX hI h
    obtain⟨n,q⟩:=hX.ak _ _ i
    have f:=f.beq n
    obtain⟨r,t⟩:=nD q
    refine⟨r,λj a g b c=>?_⟩
    rcases List.mem_cons.1 a with rfl|a
    ·rw[d]at b;cases b;exact f
    ·exact t j a g b c
  ·rename_i d
   obtain⟨i,f⟩:=nD h
   refine⟨i,λj a g b c=>?_⟩
   rcases List.mem_cons.1 a with rfl|a
   ·exact absurd b (d _)
   ·exact f j a g b c
def Gj(I:ba)(ops:Array Oper)(al:List Nat):Prop := ∀i o,ops[i]? =a_ o->(∃u,Vx I o=u/\u= .vK)->sD o=true->i∈al
include hX hI in
theorem Gk{a:iQ R}(x:gN P I sem a){round:gZ R}(q:hZ P I sem round){ops:Array Oper}{p:PM}{al:List Nat}(U:Gj I ops al){n0 N:Nat}{s0:St}{K:St->R}:
  ∀(l:List Oper)(i:Nat)(s:St)(E:Nat->jI),ops.toList.drop i=l->i<=ops.size->iI P I ops p al n0 N s0 i E s->sem (vM X I a round ops p al n0 N K l i (((d_ i).map E).reverse) s)->
  ∃sf m,sem (K sf)/\iI P I ops p al n0 N s0 ops.size m sf
 |[],i,s,E,hl,ab,ht,h=>by
  simp only[vM]at h
  have hi:ops.size<=i:=by
   have:=congrArg List.length hl
   simp at this;omega
  have:i=ops.size:=O
  subst this
  exact⟨s,E,h,ht⟩
 |o::rest,i,s,E,hl,ab,ht,h=>by
  have L:ops[i]? =a_ o:=by
   have:(ops.toList.drop i)[0]? =a_ o:=by rw[hl];rfl
   rw[List.getElem?_drop]at this
   simpa using this
  have M:ops.toList.drop (i+1)=rest:=by rw[<-List.drop_drop,hl];rfl
  have mem:∀j,j<i->E j∈((d_ i).map E).reverse:=λj hj=>by simp;exact⟨j,hj,rfl⟩
  have next:∀(e:jI)(m:Nat->jI),(∀j,j<i->m j=E j)->m i=e->e::((d_ i).map E).reverse=((d_ (i+1)).map m).reverse:=λe m c D=>by
   rw[List.range_succ,List.map_append,List.reverse_append]
   simp only[List.map_cons,List.map_nil,List.reverse_cons,List.reverse_nil,List.nil_append,List.singleton_append,D]
   congr 2
   exact List.map_congr_left λj hj=>(c j (List.mem_range.1 hj)).symm
  have go:∀e:jI,e.ix=i->KU P I ops p al n0 N e->jh s e.s->
    (∀h v u Q,h<i->e.out= .read v->(E h).out= .gz u Q->p.pre h i=false->eE P e.o (e.s.lk I.G e.o) (gQ p n0 i al (E h).s.H) v)->
    (∀j v u Q,j<i->(E j).out= .read v->e.out= .gz u Q->p.pre j i=false->eE P (E j).o ((E j).s.lk I.G (E j).o) (gQ p n0 j al Q) v)->
    sem (vM X I a round ops p al n0 N K rest (i+1) (e::((d_ i).map E).reverse) (e.next n0))->∃sf m,sem (K sf)/\iI P I ops p al n0 N s0 ops.size m sf:=by
   intro e c D V W h5 h6
   obtain⟨m,k1,k2,k3⟩:=ht.snoc e c D V W h5
   rw[next e m k1 k2]at h6
   exact Gk x q U rest (i+1) _ m M (by have:=(Array.getElem?_eq_some_iff.1 L).1;omega) k3 h6
  have y:∀k:St,jh s k->(∀out,pq ops {ix:=i,o,s:=k,out})->
    sem (Gi X I a round p al n0 N i (((d_ i).map E).reverse) o k λe=>vM X I a round ops p al n0 N K rest (i+1) (e::((d_ i).map E).reverse) (e.next n0))->
    ∃sf m,sem (K sf)/\iI P I ops p al n0 N s0 ops.size m sf:=by
   intro k r T h
   unfold Gi at h
   split at h
   ·rename_i f
    have F:gB I o=false:=by simp[gB,f]
    have Y:=vC hX h
    obtain⟨v,H',c,D⟩:=Gd hX hI h
    cases hn:i_ H'.n N with
    |true=>
     rw[hn]at c
     exact go {ix:=i,o,s:=k,out:=.pure v} rfl ⟨L,T _,F,H',dE hn,Y,D⟩ r (λ_ _ _ _ _ e=>zG) (λ_ _ _ _ _ _ e=>zG) c
    |false=>
     rw[hn]at c
     cases C:i_ H'.n (N+1)&&sD o with
     |true=>
      simp only[C,cond_true,cond_false]at c
      simp only[bf]at C
      exact go {ix:=i,o,s:=k,out:=.fresh (v.bD (kw N (n0+i))) ((H'.get N).bD (kw N (n0+i)))} rfl ⟨L,T _,F,U i o L ⟨_,f,rfl⟩ C.2,v,H',dE C.1,⟨Y,D⟩,rfl,rfl⟩ r (λ_ _ _ _ _ e=>zG) (λ_ _ _ _ _ _ e=>zG) c
     |false=>
      simp only[C,cond_false]at c
      exact absurd c hX.fail
   ·rename_i f
    have F:gB I o=false:=by simp[gB,f]
    obtain⟨v,c,D⟩:=D9 hX hI h
    obtain⟨V,W⟩:=nC hX hI (P:=P) c
    refine go {ix:=i,o,s:=k,out:=.read v} rfl ⟨L,T _,F,D⟩ r (λF v' u Q w e1 e2 hp=>?_) (λ_ _ _ _ _ _ e=>zG) V
    cases e1
    exact W _ (mem F w) u Q e2 (by rw[ht.ix F w];exact hp)
   ·rename_i f
    have F:gB I o=true:=by simp[gB,f]
    obtain⟨out,c,D⟩:=D3 hX hI x q h
    cases out with
    |qt v H'=>exact absurd c hX.fail
    |ret v H'=>
     simp only[CO.sem]at c
     cases hle:t_ H'.n N with
     |false=>rw[hle]at c;exact absurd c hX.fail
     |true=>
     rw[hle]at c
     obtain⟨V,W⟩:=nD hX hI (P:=P) c
     refine go {ix:=i,o,s:=k,out:=.gz v (ff p n0 i k.H al H')} rfl ⟨L,T _,F,H',D,rfl,jX hle⟩ r (λ_ _ _ _ _ e=>zG) (λj v' u Q w e1 e2 hp=>?_) V
     cases e2
     have:=W _ (mem j w) v' e1 (by rw[ht.ix j w];exact hp)
     rw[ht.ix j w]at this
     exact this
  have skip:∀k:St,jh s k->Z0 ops {ix:=i,o,s:=k,out:=.skip}->sem (vM X I a round ops p al n0 N K rest (i+1) ({ix:=i,o,s:=k,out:=.skip}::((d_ i).map E).reverse) (jI.next n0 {ix:=i,o,s:=k,out:=.skip}))->
    ∃sf m,sem (K sf)/\iI P I ops p al n0 N s0 ops.size m sf:=λk r T h=>
   go {ix:=i,o,s:=k,out:=.skip} rfl ⟨L,T⟩ r (λ_ _ _ _ _ e=>zG) (λ_ _ _ _ _ _ e=>zG) h
  simp only[vM]at h
  split at h
  ·rename_i S
   exact y s (jh.refl s) (λout=> .inl S) h
  ·rename_i j Z S
   split at h
   ·exact zR
   ·rename_i d hd
    split at h
    ·rename_i b hb
     have hc:=hX.cond _ _ _ h
     have g:jh s (s.put (a_ d) (.bool b)):=jh.lit hb
     have J:cR (s.put (a_ d) (.bool b)).t d= .bool b:=(g.t d).trans hb
     cases b<;>cases Z<;>simp only[if_true,kH,if_false,cond_true,cond_false]at hc
     ·exact y _ g (λout=> .inr ⟨j,_,d,S,hd,J⟩) hc
     ·exact skip _ g ⟨j,_,d,S,hd,.inl J⟩ hc
     ·exact skip _ g ⟨j,_,d,S,hd,.inl J⟩ hc
     ·exact y _ g (λout=> .inr ⟨j,_,d,S,hd,J⟩) hc
    ·rename_i hb
     exact skip s (jh.refl s) ⟨j,_,d,S,hd,.inr hb⟩ h
    ·exact zR
end
end
section
theorem PM.Gl{p:PM}(hl:p.l.length=p.n)(m){j}(a:j<p.n):({n:=p.n+1,l:=m::p.l}:PM).at j=p.at j:=by
 simp only[PM.at]
 grind
theorem PM.Tj(p:PM)(m):({n:=p.n+1,l:=m::p.l}:PM).at p.n=m:=by
 simp[PM.at]
theorem PM.Gm:∀(os)(p),p.l.length=p.n->(PM.of os p).l.length=(PM.of os p).n/\(PM.of os p).n=p.n+os.length/\(∀j,j<p.n->(PM.of os p).at j=p.at j)/\
  ∀t o,os[t]? =a_ o->∃q,(∀i,i<p.n+t->q.at i=(PM.of os p).at i)/\(PM.of os p).at (p.n+t)=Ls q o.after.toList
 |[],p,h=>⟨h,rfl,λ_ _=>rfl,zA⟩
 |o::os,p,h=>by
  simp only[PM.of,HX]
  have b:=PM.Gm os {n:=p.n+1,l:=Ls p o.after.toList::p.l} (by simp[h])
  obtain⟨c,d,a,m⟩:=b
  refine⟨c,by rw[d];simp;omega,λj f=>?_,λt s e=>?_⟩
  ·rw[a j zJ]
   exact PM.Gl h _ f
  ·cases t with
   |zero=>
    simp only[o_,fE]at e
    subst e
    refine⟨p,λi hi=>?_,?_⟩
    ·rw[a i zJ]
     exact(PM.Gl h _ O).symm
    ·rw[a (p.n+0) zA]
     exact PM.Tj p _
   |succ t=>
    grind
theorem z7{p i}:∀{a},(Ls p a).testBit i=true->∃e∈a,Region.binds .any e=true/\(i=e.on∨(p.at e.on).testBit i=true):=by
 intro a
 have key:∀(a:List Edge)(s:Nat),(a.foldl (λs e=>bif Region.binds .any e then s ||| 2^e.on ||| p.at e.on else s) s).testBit i=true->s.testBit i=true∨∃e∈a,Region.binds .any e=true/\(i=e.on∨(p.at e.on).testBit i=true):=by
  intro a
  induction a with
  |nil=>simp
  |cons e a b=>
   grind
 intro h
 rcases key a 0 h with h|h
 all_goals grind
def bz(ops:Array Oper):PM:=PM.of ops.toList {n:=0,l:=[]}
section
variable {I:ba} {ops:Array Oper} (hplan:gP I ops (bz ops)=true)
include hplan
theorem iZ{j o}(c:ops[j]? =a_ o){e}(a:e∈o.after)(d:Region.binds .any e=true):e.on<j:=by
 simp only[gP,bf]at hplan
 have b:=List.all_eq_true.1 hplan.1 (o,j) Y
 have f:=List.all_eq_true.1 b e (by simpa using a)
 simp_all
theorem BD{i j}(d:j<ops.size)(h:(bz ops).pre i j=true):∃o e,ops[j]? =a_ o/\e∈o.after/\Region.binds .any e=true/\(i=e.on∨(bz ops).pre i e.on=true):=by
 have b:ops[j]? =a_ ops[j]:=z d
 obtain⟨_,_,_,f⟩:=PM.Gm ops.toList {n:=0,l:=[]} rfl
 obtain⟨q,k1,k2⟩:=f j ops[j] zA
 simp only[Nat.zero_add]at k1 k2
 unfold PM.pre bz at h
 rw[k2]at h
 obtain⟨e,g,c,k⟩:=z7 h
 have a:e∈ops[j].after:=by simpa using g
 refine⟨ops[j],e,b,a,c,k.imp id λm=>?_⟩
 unfold PM.pre bz
 rw[<-k1 e.on (iZ hplan b a c)]
 exact m
theorem uP:∀{j i},j<ops.size->(bz ops).pre i j=true->i<j:=by
 intro j
 induction j using l_ with
 |_ j g=>
  intro i a h
  obtain⟨o,e,b,c,d,k⟩:=BD hplan a h
  have f:=iZ hplan b c d
  grind
theorem mD{x y a b}(hx:ops[x]? =a_ a)(f:ops[y]? =a_ b)(c:y<x):
  ((gB I a=true/\gB I b=true)∨(∃d,b.dst=a_ d/\d∈gA ops a)∨(∃d,a.dst=a_ d/\d∈gA ops b))->(bz ops).pre y x=true:=by
 simp only[gP,bf]at hplan
 have e:=List.all_eq_true.1 hplan.2 (a,x) Y
 have g:=List.all_eq_true.1 e (b,y) Y
 have h:m_ y x=true:=by rw[n_];exact c
 grind
theorem j3{listed:Nat->Prop}(l:∀j o,ops[j]? =a_ o->listed j->∀e∈o.after,Region.binds .any e=true->listed e.on):
  ∀{j o},ops[j]? =a_ o->(∀e∈o.after,Region.binds .any e=true->listed e.on)->∀i,(bz ops).pre i j=true->listed i:=by
 intro j
 induction j using l_ with
 |_ j m=>
  intro o b c i h
  have d:=(Array.getElem?_eq_some_iff.1 b).1
  obtain⟨n,e,a,f,g,p⟩:=BD hplan d h
  rw[b]at a
  cases a
  have k:=iZ hplan b f g
  grind
end
def Hid(p:PM)(n0 i:Nat)(al:List Nat)(l:Nat):Prop := ∃a∈al,p.pre a i=false/\l=n0+a
theorem Lt{p n0 i H}:∀{al},(gQ p n0 i al H).n=H.n
 |[]=>rfl
 |a::as=>by
  simp only[gQ]
  cases p.pre a i with
  |true=>exact Lt
  |false=>exact Lt
theorem jJ{p n0 i H}:∀{al}(l),(Hid p n0 i al l->(gQ p n0 i al H).get l= .dead)/\(¬ Hid p n0 i al l->(gQ p n0 i al H).get l=H.get l)
 |[],l=>⟨λh=>(by obtain⟨_,h,_⟩:=h;cases h),λ_=>rfl⟩
 |a::as,l=>by
  have e:=jJ (p:=p) (n0:=n0) (i:=i) (H:=H) (al:=as) l
  simp only[gQ]
  cases hp:p.pre a i with
  |true=>
   simp only[cond_true]
   have:Hid p n0 i (a::as) l↔Hid p n0 i as l:=by
    constructor
    ·rintro⟨b,c,h1,d⟩
     rcases List.mem_cons.1 c with rfl|c
     grind
     ·exact⟨b,c,h1,d⟩
    ·rintro⟨b,c,h⟩
     exact⟨b,f_ _ c,h⟩
   grind
  |false=>
   simp only[cond_false,A_]
   by_cases hl:l=n0+a
   ·rw[if_pos hl]
    exact⟨λ_=>rfl,λh=>absurd ⟨a,k_,hp,hl⟩ h⟩
   ·rw[if_neg hl]
    have:Hid p n0 i (a::as) l↔Hid p n0 i as l:=by
     constructor
     ·rintro⟨b,c,h1,d⟩
      rcases List.mem_cons.1 c with rfl|c
      ·exact absurd d hl
      ·exact⟨b,c,h1,d⟩
     ·rintro⟨b,c,h⟩
      exact⟨b,f_ _ c,h⟩
    grind
theorem iS{p n0 i H H'}:∀{al},(ff p n0 i H al H').n=H'.n
 |[]=>rfl
 |a::as=>by
  simp only[ff]
  cases p.pre a i with
  |true=>exact iS
  |false=>exact iS
theorem ck{p n0 i H H'}:∀{al}(l),(Hid p n0 i al l->(ff p n0 i H al H').get l=H.get l)/\(¬ Hid p n0 i al l->(ff p n0 i H al H').get l=H'.get l)
 |[],l=>⟨λh=>(by obtain⟨_,h,_⟩:=h;cases h),λ_=>rfl⟩
 |a::as,l=>by
  have e:=ck (p:=p) (n0:=n0) (i:=i) (H:=H) (H':=H') (al:=as) l
  simp only[ff]
  cases hp:p.pre a i with
  |true=>
   simp only[cond_true]
   have:Hid p n0 i (a::as) l↔Hid p n0 i as l:=by
    constructor
    ·rintro⟨b,c,h1,d⟩
     rcases List.mem_cons.1 c with rfl|c
     grind
     ·exact⟨b,c,h1,d⟩
    ·rintro⟨b,c,h⟩
     exact⟨b,f_ _ c,h⟩
   grind
  |false=>
   simp only[cond_false,A_]
   by_cases hl:l=n0+a
   ·rw[if_pos hl]
    exact⟨λ_=>by rw[hl],λh=>absurd ⟨a,k_,hp,hl⟩ h⟩
   ·rw[if_neg hl]
    have:Hid p n0 i (a::as) l↔Hid p n0 i as l:=by
     constructor
     ·rintro⟨b,c,h1,d⟩
      rcases List.mem_cons.1 c with rfl|c
      ·exact absurd d hl
      ·exact⟨b,c,h1,d⟩
     ·rintro⟨b,c,h⟩
      exact⟨b,f_ _ c,h⟩
    grind
end
section
def jI.val(e:jI):AV :=
 match e.out with
 | .skip=> .bK []
 | .pure v=>v
 | .fresh v _=>v
 | .read v=>v
 | .gz v _=>v
def dO(E:Nat->jI)(i:Nat):Prop := ∃v H,(E i).out= .gz v H
def eH(E:Nat->jI)(i:Nat):Prop := ∃v b,(E i).out= .fresh v b
theorem St.Vy(s:St)(d)(a):(s.put d a).H=s.H:=by
 cases s
 cases d with
 |none=>rfl
 |some i=>simp only[St.put];grind
theorem St.Tk(s:St)(d)(a):(s.put d a).nt=s.nt:=by
 cases s
 cases d with
 |none=>rfl
 |some i=>simp only[St.put];grind
theorem St.Tl(s:St)(d)(a):(s.put d a).df=s.df:=by
 cases s
 cases d with
 |none=>rfl
 |some i=>simp only[St.put];grind
theorem St.Vz(s:St)(d)(a)(u):cR (s.put d a).t u=if d=a_ u/\u<s.nt then a else cR s.t u:=by
 cases d with
 |none=>simp[St.put]
 |some i=>
  cases hi:m_ i s.nt with
  |true=>
   simp only[St.put,hi,cond_true,oo]
   rw[n_]at hi
   grind
  |false=>
   have b :¬ i<s.nt:=λe=>by rw[<-n_,hi]at e;cases e
   simp only[St.put,hi,cond_false]
   grind
theorem jI.Tm(e:jI)(n0 u):cR (e.next n0).t u=if e.o.dst=a_ u/\u<e.s.nt then e.val else cR e.s.t u:=by
 unfold jI.next jI.val
 cases e.out<;>simp only[St.Vz,St.heap]<;>rfl
theorem jI.Pu(e:jI)(n0):(e.next n0).nt=e.s.nt:=by
 unfold jI.next
 cases e.out<;>simp only[St.Tk,St.heap]
theorem jI.Pv(e:jI)(n0):(e.next n0).df=e.s.df:=by
 unfold jI.next
 cases e.out<;>simp only[St.Tl,St.heap]
theorem pu(n0)(s0)(E)(i):fI n0 s0 E (i+1)=(E i).next n0:=rfl
set_option linter.unusedSectionVars false
section
variable {P:Program} {I:ba} {ops:Array Oper} {al:List Nat} {n0 N:Nat} {s0 sf:St} {E:Nat->jI}
variable (hplan:gP I ops (bz ops)=true) (ht:iI P I ops (bz ops) al n0 N s0 ops.size E sf)
include hplan ht
theorem Pw{i}(hi:i<ops.size):(E i).s.H=(fI n0 s0 E i).H:=(ht.same i hi).H
theorem tM{i}(hi:i<ops.size):ops[i]? =a_ (E i).o:=by
 have:=(ht.ok i hi).1
 rwa[ht.ix i hi]at this
theorem KV:∀i,i<=ops.size->(fI n0 s0 E i).nt=s0.nt
 |0,_=>rfl
 |i+1,hi=>by
  rw[pu,jI.Pu,(ht.same i O).nt]
  exact KV i O
theorem R2:∀i,i<=ops.size->(fI n0 s0 E i).df=s0.df
 |0,_=>rfl
 |i+1,hi=>by
  rw[pu,jI.Pv,(ht.same i O).df]
  exact R2 i O
theorem Tn{i}(hi:i<ops.size)(u):cR (fI n0 s0 E (i+1)).t u=if(E i).o.dst=a_ u/\u<s0.nt then(E i).val else cR (fI n0 s0 E i).t u:=by
 rw[pu,jI.Tm,(ht.same i hi).t u,(ht.same i hi).nt,KV hplan ht i O]
theorem qx{u:Nat}:∀(d i),i+d<=ops.size->(∀j,i<=j->j<i+d->(E j).o.dst≠a_ u)->cR (fI n0 s0 E (i+d)).t u=cR (fI n0 s0 E i).t u
 |0,i,_,_=>rfl
 |d+1,i,hi,h=>by
  have e:i+(d+1)=(i+d)+1:=O
  rw[e,Tn hplan ht O,if_neg ZD]
  exact qx d i O Y
theorem BE{u}(a :¬ u<s0.nt):∀i,i<=ops.size->cR (fI n0 s0 E i).t u=cR s0.t u
 |0,_=>rfl
 |i+1,hi=>by
  rw[Tn hplan ht O,if_neg (λh=>a h.2)]
  exact BE a i O
theorem kL{i}(hi:i<ops.size):(¬ dO E i/\¬ eH E i/\(fI n0 s0 E (i+1)).H=(fI n0 s0 E i).H)∨
  (¬ dO E i/\∃v b,(E i).out= .fresh v b/\i∈al/\(fI n0 s0 E (i+1)).H=(fI n0 s0 E i).H.set (n0+i) b)∨
  (¬ eH E i/\∃v H2 H',(E i).out= .gz v H2/\H2=ff (bz ops) n0 i (fI n0 s0 E i).H al H'/\H'.n<=N/\(fI n0 s0 E (i+1)).H=H2):=by
 have d:=(ht.ok i hi).2
 have f:=ht.ix i hi
 have g:=Pw hplan ht hi
 have a:∀o,(E i).out=o->(fI n0 s0 E (i+1)).H=(match o with| .fresh _ b=>(fI n0 s0 E i).H.set (n0+i) b| .gz _ H=>H|_=>(fI n0 s0 E i).H):=by
  intro o c
  rw[pu]
  simp only[jI.next,c]
  cases o<;>simp only[St.Vy,St.heap,f,g]
 cases c:(E i).out with
 |skip=>exact .inl ⟨(λ⟨_,_,e⟩=>by rw[c]at e;cases e),(λ⟨_,_,e⟩=>by rw[c]at e;cases e),a _ c⟩
 |pure v=>exact .inl ⟨(λ⟨_,_,e⟩=>by rw[c]at e;cases e),(λ⟨_,_,e⟩=>by rw[c]at e;cases e),a _ c⟩
 |read v=>exact .inl ⟨(λ⟨_,_,e⟩=>by rw[c]at e;cases e),(λ⟨_,_,e⟩=>by rw[c]at e;cases e),a _ c⟩
 |fresh v b=>
  rw[c]at d
  exact .inr (.inl ⟨(λ⟨_,_,e⟩=>by rw[c]at e;cases e),v,b,rfl,Y,a _ c⟩)
 |gz v H2=>
  rw[c]at d
  obtain⟨_,_,H',_,h,j⟩:=d
  rw[f,g]at h
  exact .inr (.inr ⟨(λ⟨_,_,e⟩=>by rw[c]at e;cases e),v,H2,H',rfl,h,j,a _ c⟩)
theorem Px(a:s0.H.n<=N):∀i,i<=ops.size->(fI n0 s0 E i).H.n<=N
 |0,_=>a
 |i+1,hi=>by
  rcases kL hplan ht (O:i<ops.size)with⟨_,_,e⟩|⟨_,v,b,_,_,e⟩|⟨_,v,H2,H',_,c,d,e⟩
  ·rw[e];exact Px a i O
  ·rw[e];exact Px a i O
  ·rw[e,c,iS];exact d
theorem Gn(c:∀l,n0<=l->s0.H.get l= .dead){a}(ha:a∈al):∀i,i<=ops.size->i<=a->(fI n0 s0 E i).H.get (n0+a)= .dead
 |0,_,_=>c _ O
 |i+1,hi,g=>by
  have d:=Gn c ha i O O
  rcases kL hplan ht (O:i<ops.size)with⟨_,_,e⟩|⟨_,v,b,_,_,e⟩|⟨_,v,H2,H',_,h,j,e⟩
  ·rw[e];exact d
  ·rw[e,A_,if_neg O];exact d
  ·rw[e,h]
   have f:(bz ops).pre a i=false:=by
    rw[c_]
    intro f
    have:=uP hplan O f
    omega
   rw[(ck _).1 ⟨a,ha,f,rfl⟩]
   exact d
theorem ll{l}:∀(d i),i+d<=ops.size->(∀h,i<=h->h<i+d->dO E h->Hid (bz ops) n0 h al l)->(∀a,i<=a->a<i+d->eH E a->l≠n0+a)->
  (fI n0 s0 E (i+d)).H.get l=(fI n0 s0 E i).H.get l
 |0,i,_,_,_=>rfl
 |d+1,i,hi,g,j=>by
  have k:i+(d+1)=(i+d)+1:=O
  have c:=ll d i O (λh m o=>g h m O) Y
  rw[k]
  rcases kL hplan ht (O:i+d<ops.size)with⟨_,_,e⟩|⟨_,v,b,f,_,e⟩|⟨_,v,H2,H',f,n,p,e⟩
  ·rw[e];exact c
  ·rw[e,A_,if_neg (j (i+d) O O ⟨v,b,f⟩)];exact c
  ·rw[e,n,(ck _).1 (g (i+d) O O ⟨v,H2,f⟩)]
   exact c
theorem nF:∀(d i),i+d<=ops.size->(∀h,i<=h->h<i+d->¬ dO E h)->(fI n0 s0 E (i+d)).H.n=(fI n0 s0 E i).H.n
 |0,i,_,_=>rfl
 |d+1,i,hi,a=>by
  have g:i+(d+1)=(i+d)+1:=O
  have c:=nF d i O (λh j k=>a h j O)
  rw[g]
  rcases kL hplan ht (O:i+d<ops.size)with⟨_,_,e⟩|⟨_,v,b,f,_,e⟩|⟨_,v,H2,H',f,l,m,e⟩
  ·rw[e];exact c
  ·rw[e];exact c
  ·exact absurd ⟨v,H2,f⟩ (a (i+d) O O)
end
theorem qy(E)(k):∀(d i),i+d=k->∃m,i<=m/\m<=k/\(m<k->dO E m)/\∀h,i<=h->h<m->¬ dO E h
 |0,i,h=>⟨i,dw _,O,λa=>O,O⟩
 |d+1,i,h=>by
  by_cases hi:dO E i
  grind
  ·obtain⟨m,b,c,e,f⟩:=qy E k d (i+1) O
   grind
end
section
set_option linter.unusedSectionVars false
def dH(listed:Array Bool)(i:Nat):Prop:=listed.getD i false=true
structure Py (ops:Array Oper) (al:List Nat) (n0 N:Nat) (s0:St) (E:Nat->jI) (c:zS) (DI:Env) (listed:Array Bool) (m:Nat) (ρ:Env) (HS:AH) (a:Act) (w:World):Prop where
 size:listed.size=ops.size
 closed:∀f g,ops[f]? =a_ g->dH listed f->∀e∈g.after,Region.binds .any e=true->dH listed e.on
 Pc:m<=ops.size
 mh:m<ops.size->dO E m/\¬ dH listed m
 mlt:∀h,h<m->dO E h->dH listed h
 n:HS.n=(fI n0 s0 E m).H.n
 lo:n0+ops.size<=HS.n
 g1:∀x,x<ops.size->eH E x->dH listed x->x<m->HS.get (n0+x)=(fI n0 s0 E m).H.get (n0+x)
 g2:∀x k b,x<ops.size->(E x).out= .fresh k b->dH listed x->m<=x->HS.get (n0+x)=b
 g3:∀x,x<ops.size->eH E x->¬ dH listed x->HS.get (n0+x)= .dead/\ρ (n0+x)=w_
 g4:∀l,(∀x,x<ops.size->eH E x->l≠n0+x)->HS.get l=(fI n0 s0 E m).H.get l
 rel:Rel c ρ HS w
 ext:Ext DI ρ
 p9:a.tmps.size=s0.nt
 HY:∀i,¬ i<s0.nt->VR ρ (cR s0.t i) undef
 tmp:∀x,x<=ops.size->(x<ops.size->¬ dH listed x)->∀i,(x<ops.size->i∈gA ops (E x).o)->(∀f,f<x->(E f).o.dst=a_ i->dH listed f)->VR ρ (cR (fI n0 s0 E x).t i) (a.tmps.getD i undef)
 df:Gh ρ s0.df a.defers
theorem vO(E)(i):∀d,(∀h,i<=h->h<i+d->¬ dO E h)∨∃h,i<=h/\h<i+d/\dO E h/\∀a,h<a->a<i+d->¬ dO E a
 |0=>Y
 |d+1=>by
  by_cases b:dO E (i+d)
  grind
  ·rcases vO E i d with h|⟨h,h1,c,e,f⟩
   all_goals grind
section
variable {P:Program} {I:ba} {ops:Array Oper} {al:List Nat} {n0 N:Nat} {s0 sf:St} {E:Nat->jI} {c:zS} {DI:Env}
variable (hplan:gP I ops (bz ops)=true) (ht:iI P I ops (bz ops) al n0 N s0 ops.size E sf)
include hplan ht
theorem vP{listed:Array Bool}{ρ ρ':Env}{a:Act}{y:Nat}(r:y<ops.size)(H :¬ dH listed y)(G:∀i,(bz ops).pre i y=true->dH listed i)
  (I:∀b,b<ops.size->dH listed b->∀i,(bz ops).pre i b=true->dH listed i) (J:listed.size=ops.size)
  (h:a.tmps.size=s0.nt) (s:∀u,¬ u<s0.nt->VR ρ (cR s0.t u) undef)
  (l:∀x,x<=ops.size->(x<ops.size->¬ dH listed x)->∀u,(x<ops.size->u∈gA ops (E x).o)->(∀j,j<x->(E j).o.dst=a_ u->dH listed j)->VR ρ (cR (fI n0 s0 E x).t u) (a.tmps.getD u undef))
  (hx:Ext ρ ρ') {v:Value} (K:VR ρ' (E y).val v):
  ∀x,x<=ops.size->(x<ops.size->¬ dH (listed.setIfInBounds y true) x)->∀u,(x<ops.size->u∈gA ops (E x).o)->(∀j,j<x->(E j).o.dst=a_ u->dH (listed.setIfInBounds y true) j)->
   VR ρ' (cR (fI n0 s0 E x).t u) ((a.put (E y).o.dst v).tmps.getD u undef):=by
 have m:∀j,dH (listed.setIfInBounds y true) j↔j=y∨dH listed j:=λj=>by
  unfold dH
  by_cases e:j=y
  simp_all
  ·simp only[B,e_]
   grind
 intro x n L u M N
 have w:x<ops.size->¬ dH listed x:=ZD
 have C:x<ops.size->x≠y:=ZD
 by_cases f:u<s0.nt
 ·by_cases q:(E y).o.dst=a_ u
  ·have c:(a.put (E y).o.dst v).tmps.getD u undef=v:=by
    rw[q]
    simp[Act.put,B,h,f]
   rw[c]
   by_cases P:y<x
   ·
    have k:∀b,y+1<=b->b<(y+1)+(x-(y+1))->(E b).o.dst≠a_ u:=by
     intro b V W Q
     have D:b<ops.size:=O
     have R:dH listed b:=Y
     have:(bz ops).pre y b=true:=mD hplan (tM hplan ht D) (tM hplan ht r) O (.inr (.inl ⟨u,q,by simp[gA,Q]⟩))
     exact Y
    have:=qx hplan ht (x-(y+1)) (y+1) O k
    have S:y+1+(x-(y+1))=x:=O
    rw[S]at this
    rw[this,Tn hplan ht r,if_pos ⟨q,f⟩]
    exact K
   ·have g:x<ops.size:=by omega
    have T:=C g
    have:(bz ops).pre x y=true:=mD hplan (tM hplan ht r) (tM hplan ht g) O Y
    grind
  ·have c:(a.put (E y).o.dst v).tmps.getD u undef=a.tmps.getD u undef:=by
    cases F:(E y).o.dst with
    |none=>rfl
    |some d=>
     have:d≠u:=ZD
     simp only[Act.put,B,e_]
     rw[if_neg this]
   rw[c]
   refine VR.ext hx _ _ (l x n w u M λj U p=>((m j).1 (N j U p)).resolve_left λe=>?_)
   subst e
   exact q p
 ·rw[BE hplan ht f x n]
  have c:(a.put (E y).o.dst v).tmps.getD u undef=undef:=by
   have X:(a.put (E y).o.dst v).tmps.size=s0.nt:=by
    cases F:(E y).o.dst with
    |none=>exact h
    |some d=>simp[Act.put,h]
   rw[B,p_ Y]
   rfl
  rw[c]
  exact VR.ext hx _ _ (s u f)
theorem To{listed:Array Bool}{m:Nat}{ρ:Env}{HS:AH}{a:Act}{w:World}(hN:s0.H.n<=N)(ed:∀l,n0<=l->s0.H.get l= .dead)(fs:∀l,c.E l->l<n0)(hG:c.G=I.G)
  (h:Py ops al n0 N s0 E c DI listed m ρ HS a w) {y:Nat} (hy:y∈Region.ready .any ops listed) {ro:Option Nat} {n:Nat} {K:Act->World->Prop} {Q:Exit->Act->World->Prop}
  (hK:∀m' ρ' eN a' w',Py ops al n0 N s0 E c DI (listed.setIfInBounds y true) m' ρ' eN a' w'->K a' w'):wpOpIn (WF ro) n P ops Q y K a w:=by
 obtain⟨cf,o,ab,cg⟩:=mem_ready.1 hy
 have F:y<ops.size:=(Array.getElem?_eq_some_iff.1 ab).1
 have ai :¬ dH listed y:=by
  unfold dH
  rw[B,z Y]at cf⊢
  simpa using cf
 have Z:(E y).o=o:=by
  have:=tM hplan ht F
  rw[ab]at this
  exact Y
 have S:∀i,(bz ops).pre i y=true->dH listed i:=j3 hplan h.closed ab (λe he hb=>cg e he hb)
 have b1:∀p,p<ops.size->dH listed p->∀i,(bz ops).pre i p=true->dH listed i:=λp hz eS=>j3 hplan h.closed (z hz) (h.closed p _ (z hz) eS)
 have U:∀j,dH (listed.setIfInBounds y true) j↔j=y∨dH listed j:=λj=>by
  unfold dH
  by_cases e:j=y
  ·subst e
   simp[B,h.size,F]
  ·simp only[B,e_]
   grind
 have ad:(listed.setIfInBounds y true).size=ops.size:=by simp[h.size]
 have W:∀j o,ops[j]? =a_ o->dH (listed.setIfInBounds y true) j->∀e∈o.after,Region.binds .any e=true->dH (listed.setIfInBounds y true) e.on:=by
  intro j o' ch hl e he hb
  refine(U _).2 (.inr ?_)
  rcases(U j).1 hl with rfl|hl
  ·rw[ab]at ch;cases ch
   exact cg e he hb
  ·exact h.closed j o' ch hl e he hb
 have a6:∀u,u∈gA ops o->VR ρ (cR (E y).s.t u) (a.tmps.getD u undef):=by
  intro u hu
  rw[(ht.same y F).t u]
  refine h.tmp y (Nat.le_of_lt F) (λ_=>ai) u ZD λj hj ft=>?_
  have eT:j<ops.size:=O
  exact S j (mD hplan ab (tM hplan ht eT) hj Y)
 have bd:∀x,VR ρ ((E y).s.lk I.G o x) (a.eval x):=by
  intro x
  cases x with
  |tmp u=>
   simp only[St.lk,Act.eval]
   cases hu:sE (D8 o) u with
   |true=>exact a6 u (by simp only[gA,List.mem_append];exact .inl (.inr (vL.1 hu)))
   |false=>simp only[cond_false,VR]
  |const v=>
   simp only[St.lk,St.ev,Sj,Act.eval]
   split
   ·rename_i a ha;exact jZ ρ v a ha
   ·simp only[VR]
  |global g=>
   simp only[St.lk,St.ev,Act.eval]
   cases hg:m_ (Lk g) I.G&&i_ (ux (Lk g)) g with
   |true=>
    rw[bf,n_,Nat.beq_eq]at hg
    obtain⟨N,hN⟩:=h.rel.fp (Lk g) O
    simp only[cond_true,VR]
    exact⟨g,N,by rw[hg.2]at hN;exact hN,zA⟩
   |false=>simp only[cond_false,VR]
  |func f=>simp only[St.lk,St.ev,Act.eval,VR];exact⟨[],[],rfl,zH,zH⟩
 have cp:=ht.ix y F
 have T:=(ht.ok y F).2
 have ee:=Pw hplan ht F
 have R:pq ops (E y)->Region.wanted o (yielded ops a.tmps)=true:=by
  rintro(hg|⟨j,want,d,hg,hd,hv⟩)
  ·rw[Z]at hg;simp[Region.wanted,hg]
  ·rw[Z]at hg
   have:=a6 d (by simp[gA,hg,hd])
   rw[hv]at this
   simp only[VR]at this
   rw[ph hg hd this]
   simp
 have b7:Z0 ops (E y)->Region.wanted o (yielded ops a.tmps)=false:=by
  rintro⟨j,want,d,hg,hd,hv⟩
  rw[Z]at hg
  have:=a6 d (by simp[gA,hg,hd])
  rcases hv with hv|hv
  ·rw[hv]at this
   simp only[VR]at this
   rw[ph hg hd this]
   cases want<;>rfl
  ·rw[hv]at this
   simp only[VR]at this
   obtain⟨vs,h5,h6⟩:=this
   simp only[aU]at h6
   subst h6
   exact nA hg hd h5
 have ag:Region.wanted o (yielded ops a.tmps)=true->o.wpIn (WF ro) n P a w K Q->wpOpIn (WF ro) n P ops Q y K a w:=λhw hh=>by
  simp only[wpOpIn,ab,hw,if_true];exact hh
 have a7:∀(v:AV)(u:Value)(w':World)(ρ':Env),(E y).val=v->¬ dO E y->¬ eH E y->Ext ρ ρ'->(∀x,x<ops.size->ρ' (n0+x)=ρ (n0+x))->Rel c ρ' HS w'->VR ρ' v u->K (a.put o.dst u) w':=by
  intro v u w' ρ' ef cr cv hx fv hr hv
  have X:=vP hplan ht F ai S b1 h.size h.p9 h.HY h.tmp hx (by rw[ef];exact hv)
  rw[Z]at X
  refine hK m ρ' HS _ w' ⟨ad,W,h.Pc,λV=>⟨(h.mh V).1,λhl=>?_⟩,λx b3 hh=>(U x).2 (.inr (h.mlt x b3 hh)),h.n,h.lo,λx q J hl V=>?_,λx v b q J hl V=>?_,λx q J hl=>?_,h.g4,hr,h.ext.trans hx,?_,λu hu=>VR.ext hx _ _ (h.HY u hu),X,?_⟩
  ·rcases(U m).1 hl with e|hl
   ·rw[e]at V
    exact cr (e▸(h.mh (e▸V)).1)
   ·exact(h.mh V).2 hl
  ·refine h.g1 x q J Y V
  ·exact h.g2 x v b q J (((U x).1 hl).resolve_left λe=>cv (e▸⟨v,b,J⟩)) V
  ·obtain⟨e1,e2⟩:=h.g3 x q J ZD
   grind
  ·cases hd:o.dst with
   |none=>exact h.p9
   |some d=>simp[Act.put,h.p9]
  ·cases hd:o.dst with
   |none=>exact h.df.ext hx
   |some d=>exact h.df.ext hx
 have eg:∀out,(E y).out=out->(∀v H,out≠ .gz v H)->¬ dO E y:=λout ho e5 ⟨v,H,e⟩=>Y
 have ei:∀out,(E y).out=out->(∀v b,out≠ .fresh v b)->¬ eH E y:=λout ho e5 ⟨v,b,e⟩=>Y
 have D:∀x,x<ops.size->eH E x->x∈al:=λx q J=>by
  rcases kL hplan ht q with⟨_,e,_⟩|⟨_,_,_,_,e,_⟩|⟨e,_⟩
  all_goals grind
 cases r:(E y).out with
 |skip=>
  rw[r]at T
  have hw:=b7 T
  simp only[wpOpIn,ab,hw,kH,if_false]
  exact⟨λ_ _=>trivial,a7 (.bK []) undef w ρ (by simp[jI.val,r]) Y Y (Ext.refl ρ) (λ_ _=>rfl) h.rel vD⟩
 |pure v=>
  rw[r]at T
  obtain⟨hw,_,H',cx,a8,C⟩:=T
  rw[Z]at a8 C
  have b0:HS.n<=N:=by rw[h.n];exact Px hplan ht hN m h.Pc
  obtain⟨u,w',ρ',e1,e2,e3,e4,_⟩:=C _ ρ w a.eval bd (h.rel.blank b0)
  obtain⟨f1,f2⟩:=h.rel.Th b0 e3 cx
  refine ag (R hw) ⟨iA,?_⟩
  rw[Oper.semAt_eq _ _ _ a8,e1,Oper.uponIn_value]
  refine a7 v u w' ρ' (by simp[jI.val,r]) Y Y f1 (λx hx=>?_) f2 e4
  have ej:=h.lo
  have:n0+x<(HS.up N).n:=s_ O b0
  exact(e3.env (n0+x) this).2
 |read v=>
  rw[r]at T
  obtain⟨hw,_,eM⟩:=T
  have key:∃M:AH,eE P o ((E y).s.lk I.G o) M v/\M.n=HS.n/\∀l,M.get l= .dead∨M.get l=HS.get l:=by
   by_cases c6:m<y
   ·have aj:m<ops.size:=by omega
    obtain⟨⟨u,Hh,V⟩,dd⟩:=h.mh aj
    have hp:(bz ops).pre m y=false:=by
     rw[c_];intro e;exact dd (S m e)
    have hb:=ht.back y m v u Hh F c6 r V hp
    rw[Z]at hb
    refine⟨_,hb,by rw[Lt,Pw hplan ht aj];exact h.n.symm,λl=>?_⟩
    by_cases hid:Hid (bz ops) n0 y al l
    ·exact .inl ((jJ l).1 hid)
    ·rw[(jJ l).2 hid,Pw hplan ht aj]
     by_cases b4:∃x,x<ops.size/\eH E x/\l=n0+x
     ·obtain⟨x,q,J,rfl⟩:=b4
      have bs:=D x q J
      have ap:(bz ops).pre x y=true:=by
       cases ap:(bz ops).pre x y with
       |true=>rfl
       |false=>exact absurd ⟨x,bs,ap,rfl⟩ hid
      by_cases b8:x<m
      ·exact .inr (h.g1 x q J (S x ap) b8).symm
      ·exact .inl (Gn hplan ht ed bs m h.Pc O)
     ·exact .inr (h.g4 l ZD).symm
   ·have fw:y<m:=by
     rcases r_ y m with e|e
     ·exact e
     ·have:m=y:=by omega
      subst this
      obtain⟨⟨u,Hh,V⟩,_⟩:=h.mh F
      grind
    have aj:=h.Pc
    have stage:∃x,y<=x/\x<=m/\(∀k,x<=k->k<m->¬ dO E k)/\eE P o ((E y).s.lk I.G o) (gQ (bz ops) n0 y al (fI n0 s0 E x).H) v:=by
     rcases vO E y (m-y)with fN|⟨k,h1,h2,h3,h4⟩
     ·grind
     ·obtain⟨u,Hh,hk⟩:=h3
      have ek:y<k:=by
       rcases r_ y k with e|e
       ·exact e
       ·grind
      have dk:k<ops.size:=O
      have hp:(bz ops).pre y k=false:=by
       rw[c_];intro e
       exact ai (b1 k dk (h.mlt k O ⟨u,Hh,hk⟩) y e)
      have hb:=ht.R1 y k v u Hh dk ek r hk hp
      rw[Z]at hb
      have ga:Hh=(fI n0 s0 E (k+1)).H:=by
       rcases kL hplan ht dk with⟨e,_,_⟩|⟨e,_⟩|⟨_,v',e6,e7,e1,_,_,e2⟩
       ·exact absurd ⟨u,Hh,hk⟩ e
       ·grind
       ·grind
      grind
    obtain⟨x,gb,b3,gf,e8⟩:=stage
    have e0:x+(m-x)=m:=O
    have b5:=nF hplan ht (m-x) x O ZD
    rw[e0]at b5
    refine⟨_,e8,by rw[Lt,h.n,b5],λl=>?_⟩
    by_cases hid:Hid (bz ops) n0 y al l
    ·exact .inl ((jJ l).1 hid)
    ·rw[(jJ l).2 hid]
     by_cases b4:∃p,p<ops.size/\eH E p/\l=n0+p
     ·obtain⟨p,en,J,rfl⟩:=b4
      have eo:=D p en J
      have b9:(bz ops).pre p y=true:=by
       cases b9:(bz ops).pre p y with
       |true=>rfl
       |false=>exact absurd ⟨p,eo,b9,rfl⟩ hid
      have gi:=uP hplan F b9
      have hc:=ll hplan ht (l:=n0+p) (m-x) x O ZD O
      rw[e0]at hc
      rw[<-hc]
      exact .inr (h.g1 p en J (S p b9) O).symm
     ·have hc:=ll hplan ht (l:=l) (m-x) x O ZD Y
      rw[e0]at hc
      rw[<-hc]
      exact .inr (h.g4 l ZD).symm
  obtain⟨M,⟨a8,C⟩,dt,hM⟩:=key
  have dv:=h.rel.xN (L:=λl=>M.get l= .dead) (HM:=M) dt λl=>by
   grind
  obtain⟨u,e1,e2⟩:=C _ ρ w a.eval bd dv
  refine ag (R hw) ⟨iA,?_⟩
  rw[Oper.semAt_eq _ _ _ a8,e1,Oper.uponIn_value]
  exact a7 v u w ρ (by simp[jI.val,r]) Y Y (Ext.refl ρ) (λ_ _=>rfl) h.rel e2
 |fresh v b=>
  rw[r]at T
  obtain⟨hw,_,er,v0,H',cx,⟨a8,C⟩,hv,hb⟩:=T
  rw[Z]at a8 C
  rw[cp]at er hv hb
  have b0:HS.n<=N:=by rw[h.n];exact Px hplan ht hN m h.Pc
  obtain⟨u,w',ρ',e1,e2,e3,e4,_⟩:=C _ ρ w a.eval bd (h.rel.blank b0)
  have ej:=h.lo
  obtain⟨d1,d2⟩:=h.g3 y F ⟨v,b,r⟩ ai
  obtain⟨et,off,hx,ez,ca⟩:=h.rel.Ti b0 e3 cx (ℓ:=n0+y) O d1 d2 (λe=>Y)
  rw[<-hb]at ca
  have e9:VR et v u:=by rw[hv];exact VR.bD ez _ _ e4
  refine ag (R hw) ⟨iA,?_⟩
  rw[Oper.semAt_eq _ _ _ a8,e1,Oper.uponIn_value]
  have X:=vP hplan ht F ai S b1 h.size h.p9 h.HY h.tmp hx (v:=u) (by simp only[jI.val,r];exact e9)
  rw[Z]at X
  have cr :¬ dO E y:=Y
  refine hK m et (HS.set (n0+y) b) _ w' ⟨ad,W,h.Pc,λV=>⟨(h.mh V).1,λhl=>?_⟩,λx b3 hh=>(U x).2 (.inr (h.mlt x b3 hh)),h.n,h.lo,λx q J hl V=>?_,λx v' b' q J hl V=>?_,λx q J hl=>?_,λl hl=>?_,ca,h.ext.trans hx,?_,λu hu=>VR.ext hx _ _ (h.HY u hu),X,?_⟩
  ·rcases(U m).1 hl with e|hl
   ·rw[e]at V
    exact cr (e▸(h.mh (e▸V)).1)
   ·exact(h.mh V).2 hl
  ·by_cases e:x=y
   ·subst e
    rw[h_]
    have hc:=ll hplan ht (l:=n0+x) (m-(x+1)) (x+1) (by have:=h.Pc;omega) (λk h1 h2 hh=>⟨x,er,by
      rw[c_];intro hp
      have eA:=h.Pc
      exact ai (b1 k O (h.mlt k O hh) x hp),rfl⟩) O
    have e0:x+1+(m-(x+1))=m:=O
    rw[e0]at hc
    rw[hc]
    rcases kL hplan ht q with⟨_,e,_⟩|⟨_,v',b',e1,_,e2⟩|⟨e,_⟩
    ·exact absurd J e
    ·rw[r]at e1;cases e1
     rw[e2,h_]
    ·exact absurd J e
   ·rw[x_ _ _ O]
    exact h.g1 x q J Y V
  ·by_cases e:x=y
   ·subst e
    rw[r]at J;cases J
    exact h_ _ _ _
   ·rw[x_ _ _ O]
    exact h.g2 x v' b' q J Y V
  ·have e:x≠y:=by simp_all
   obtain⟨e1,e2⟩:=h.g3 x q J ZD
   exact⟨by rw[x_ _ _ O];exact e1,Y⟩
  ·have e:l≠n0+y:=hl y F ⟨v,b,r⟩
   rw[x_ _ _ (λe'=>e e'.symm)]
   exact h.g4 l hl
  ·cases hd:o.dst with
   |none=>exact h.p9
   |some d=>simp[Act.put,h.p9]
  ·cases hd:o.dst with
   |none=>exact h.df.ext hx
   |some d=>exact h.df.ext hx
 |gz v H2=>
  rw[r]at T
  obtain⟨hw,cc,H',C,cd,gl⟩:=T
  rw[Z]at cc
  rw[cp,ee,Z]at C
  rw[cp,ee]at cd
  have eA:=h.Pc
  have c6:m=y:=by
   rcases Nat.lt_trichotomy m y with e|e|e
   ·have aj:m<ops.size:=by omega
    obtain⟨⟨u,Hh,V⟩,dd⟩:=h.mh aj
    have b6:=(ht.ok m aj).2
    rw[V]at b6
    exact absurd (S m (mD hplan ab (tM hplan ht aj) e Y)) dd
   ·exact e
   ·exact absurd (h.mlt y e ⟨v,H2,r⟩) ai
  subst c6
  have dt:(gQ (bz ops) n0 m al (fI n0 s0 E m).H).n=HS.n:=by rw[Lt];exact h.n.symm
  have dv:=h.rel.xN (L:=Hid (bz ops) n0 m al) dt λl=>by
   by_cases hid:Hid (bz ops) n0 m al l
   ·exact .inl ⟨hid,(jJ l).1 hid⟩
   ·refine .inr ⟨hid,?_⟩
    rw[(jJ l).2 hid]
    by_cases b4:∃x,x<ops.size/\eH E x/\l=n0+x
    ·obtain⟨x,q,J,rfl⟩:=b4
     have ap:(bz ops).pre x m=true:=by
      cases ap:(bz ops).pre x m with
      |true=>rfl
      |false=>exact absurd ⟨x,D x q J,ap,rfl⟩ hid
     exact(h.g1 x q J (S x ap) (uP hplan F ap)).symm
    ·exact(h.g4 l ZD).symm
  refine ag (R hw) (C ro n (c.xN ρ HS w (Hid (bz ops) n0 m al)) ρ w a K Q hG bd dv (λv2 H3 u w' ρ' e hx eB hv=>?_) zA)
  cases e
  obtain⟨_,ca⟩:=h.rel.KH (L:=Hid (bz ops) n0 m al) (H2:=ff (bz ops) n0 m HS al H') eB iS λl=>by
   by_cases hid:Hid (bz ops) n0 m al l
   ·exact .inl ⟨hid,(ck l).1 hid⟩
   ·exact .inr ⟨hid,(ck l).2 hid⟩
  have fo:∀l,l<HS.n->l<H'.n/\ρ' l=ρ l:=λl hl=>eB.env l hl
  have gm:HS.n<=H'.n:=Y
  obtain⟨m',k1,k2,k3,k4⟩:=qy E ops.size (ops.size-(m+1)) (m+1) O
  have e0:m+1+(m'-(m+1))=m':=O
  have fa:(fI n0 s0 E (m+1)).H=H2:=by
   rcases kL hplan ht F with⟨e,_,_⟩|⟨e,_⟩|⟨_,v',e6,e7,e1,_,_,e2⟩
   ·exact absurd ⟨v,H2,r⟩ e
   ·grind
   ·grind
  have b5:=nF hplan ht (m'-(m+1)) (m+1) O ZD
  rw[e0,fa,cd,iS]at b5
  have eC:∀l,(∀a,m+1<=a->a<m'->eH E a->l≠n0+a)->(fI n0 s0 E m').H.get l=H2.get l:=λl hl=>by
   have:=ll hplan ht (l:=l) (m'-(m+1)) (m+1) O ZD Y
   grind
  have X:=vP hplan ht F ai S b1 h.size h.p9 h.HY h.tmp hx (v:=u) (by simp only[jI.val,r];exact hv)
  rw[Z]at X
  have cv :¬ eH E m:=Y
  have ej:=h.lo
  have ea:∀x,(bz ops).pre x m=true->x<m:=λx hp=>uP hplan F hp
  refine hK m' ρ' (ff (bz ops) n0 m HS al H') _ w' ⟨ad,W,k2,λV=>⟨k3 V,λhl=>?_⟩,λx b3 hh=>?_,?_,?_,λx q J hl V=>?_,λx v' b' q J hl V=>?_,λx q J hl=>?_,λl hl=>?_,ca,h.ext.trans hx,?_,λu hu=>VR.ext hx _ _ (h.HY u hu),X,?_⟩
  ·obtain⟨u',Hh,fb⟩:=k3 V
   have b6:=(ht.ok m' V).2
   rw[fb]at b6
   have hp:=mD hplan (tM hplan ht V) ab O Y
   grind
  ·by_cases e:x<m
   ·exact(U x).2 (.inr (h.mlt x e hh))
   grind
  ·rw[iS,b5]
  ·rw[iS];omega
  ·have b8:x≠m:=λe=>cv (e▸J)
   have eF:=((U x).1 hl).resolve_left b8
   have bs:=D x q J
   by_cases eG:x<m
   ·rw[eC _ O,cd]
    by_cases hid:Hid (bz ops) n0 m al (n0+x)
    ·rw[(ck _).1 hid,(ck _).1 hid]
     exact h.g1 x q J eF eG
    ·rw[(ck _).2 hid,(ck _).2 hid]
   ·have hid:Hid (bz ops) n0 m al (n0+x):=⟨x,bs,by
     rw[c_];intro hp;exact eG (ea x hp),rfl⟩
    rw[(ck _).1 hid]
    obtain⟨v',b',eb⟩:=J
    rw[h.g2 x v' b' q eb eF O]
    have hc:=ll hplan ht (l:=n0+x) (m'-(x+1)) (x+1) O (λk h1 h2 hh=>Y) O
    have e1:x+1+(m'-(x+1))=m':=O
    rw[e1]at hc
    rw[hc]
    rcases kL hplan ht q with⟨_,e,_⟩|⟨_,v2,b2,e1,_,e2⟩|⟨e,_⟩
    ·exact absurd ⟨v',b',eb⟩ e
    ·rw[eb]at e1;cases e1
     rw[e2,h_]
    grind
  ·have b8:x≠m:=by omega
   have hid:Hid (bz ops) n0 m al (n0+x):=⟨x,D x q ⟨v',b',J⟩,by
    grind,rfl⟩
   rw[(ck _).1 hid]
   exact h.g2 x v' b' q J Y O
  ·have eL :¬ dH listed x:=by simp_all
   have hid:Hid (bz ops) n0 m al (n0+x):=⟨x,D x q J,by
    rw[c_];intro hp;exact eL (S x hp),rfl⟩
   obtain⟨e1,e2⟩:=h.g3 x q J eL
   exact⟨by rw[(ck _).1 hid];exact e1,Y⟩
  ·rw[eC l Y,cd]
   by_cases hid:Hid (bz ops) n0 m al l
   ·rw[(ck _).1 hid,(ck _).1 hid]
    exact h.g4 l hl
   ·rw[(ck _).2 hid,(ck _).2 hid]
  ·cases hd:o.dst with
   |none=>exact h.p9
   |some d=>simp[Act.put,h.p9]
  ·cases hd:o.dst with
   |none=>exact h.df.ext hx
   |some d=>exact h.df.ext hx
end
end
section
set_option linter.unusedSectionVars false
theorem tN{I}:∀{os i t o},os[t]? =a_ o->Vx I o= .vK->sD o=true->i+t∈lO I i os
 |[],i,t,o,h,_,_=>by simp at h
 |b::os,i,t,o,h,h1,a=>by
  cases t with
  |zero=>
   simp only[o_,fE]at h
   subst h
   simp only[lO,h1,a,cond_true,Nat.add_zero]
   simp
  |succ t=>
   simp only[List.getElem?_cons_succ]at h
   have:=tN (i:=i+1) h h1 a
   have e:i+(t+1)=i+1+t:=O
   rw[e]
   simp only[lO]
   grind
section
variable {P:Program} {I:ba} {ops:Array Oper} {al:List Nat} {n0 N:Nat} {s0 sf:St} {E:Nat->jI} {c:zS} {DI:Env}
variable (hplan:gP I ops (bz ops)=true) (ht:iI P I ops (bz ops) al n0 N s0 ops.size E sf)
include hplan ht
theorem KW{listed m ρ j a w}(h:Py ops al n0 N s0 E c DI listed m ρ j a w)(d:∀i,i<ops.size->dH listed i):(aQ.n sf).post c DI .normal a w:=by
 have k:m=ops.size:=by
  have:=h.Pc
  rcases r_ m ops.size with e|e
  ·exact absurd (d m e) (h.mh e).2
  ·omega
 subst k
 have b:=ht.last
 refine⟨ρ,h.ext,⟨by rw[b,KV hplan ht _ (dw _)];exact h.p9,λu=>?_⟩,?_,by rw[b,R2 hplan ht _ (dw _)];exact h.df⟩
 ·rw[b]
  exact h.tmp ops.size (dw _) (λe=>O) u (λe=>O) Y
 ·rw[b]
  refine h.rel.congr h.n.symm λl=>?_
  by_cases g:∃x,x<ops.size/\eH E x/\l=n0+x
  ·obtain⟨x,f,o,rfl⟩:=g
   exact(h.g1 x f o (d x f) f).symm
  ·exact(h.g4 l ZD).symm
theorem BF{listed}(b:listed.size=ops.size)(h:Region.ready .any ops listed=[]):∀i,i<ops.size->dH listed i:=by
 intro i
 induction i using l_ with
 |_ i c=>
  intro hi
  apply g_
  intro d
  have:i∈Region.ready .any ops listed:=by
   refine mem_ready.2 ⟨?_,ops[i],z hi,λe f g=>?_⟩
   ·unfold dH at d
    grind
   ·have a:=iZ hplan (z hi) f g
    exact c e.on a O
  grind
theorem R3{ro n}(hN:s0.H.n<=N)(d:∀l,n0<=l->s0.H.get l= .dead)(k:∀l,c.E l->l<n0)(hG:c.G=I.G):∀(fuel)(f:List Nat)(listed)(m)(ρ)(r)(a) (w),
  f.length=fuel->f.Nodup->(∀i,i<ops.size->(¬ dH listed i↔i∈f))->(∀i,i∈f->i<ops.size)->Py ops al n0 N s0 E c DI listed m ρ r a w->
  wpAnyIn (WF ro) n P .any ops ((aQ.n sf).post c DI) fuel listed a w
 |0,f,listed,m,ρ,r,a,w,hl,_,D,_,h=>by
  have p:f=[]:=Y
  subst p
  have g:∀i,i<ops.size->dH listed i:=ZD
  refine⟨?_,KW hplan ht h g⟩
  cases s:Region.ready .any ops listed with
  |nil=>rfl
  |cons y O=>
   have q:y∈Region.ready .any ops listed:=by rw[s];exact k_
   obtain⟨t,o,u,_⟩:=mem_ready.1 q
   have b:=(Array.getElem?_eq_some_iff.1 u).1
   have:=g y b
   unfold dH at this
   grind
 |fuel+1,f,listed,m,ρ,r,a,w,hl,v,D,J,h=>by
  refine⟨λs=>KW hplan ht h (BF hplan ht h.size s),λy q=>?_⟩
  refine To hplan ht hN d k hG h q λK ρ' x a' w' L=>?_
  obtain⟨t,o,u,_⟩:=mem_ready.1 q
  have b:=(Array.getElem?_eq_some_iff.1 u).1
  have C :¬ dH listed y:=by
   unfold dH
   rw[B,z Y]at t⊢
   simpa using t
  have M:=(D y b).1 C
  have F:∀j,dH (listed.setIfInBounds y true) j↔j=y∨dH listed j:=λj=>by
   unfold dH
   by_cases e:j=y
   ·subst e
    simp[B,h.size,b]
   ·simp only[B,e_]
    grind
  refine R3 hN d k hG fuel (f.erase y) _ K ρ' x a' w' ?_ (v.erase y) (λi hi=>?_) (λi hi=>Y) L
  all_goals grind
end
section
variable {R:Type} {X:RI R} {sem:R->Prop} (hX:X.Ok sem) {I:ba} {P:Program} (hI:I.Ok P)
include hX hI in
theorem sG(N:Nat){r:iQ R}{round:gZ R}(C:gN P I sem r)(f:hZ P I sem round){ops:Array Oper}{k:KS R}{s:St}(h:sem (drawn X I N r round ops k s)):
  ∃sf,sem (k.n sf)/\∀ro n c ρ a w,c.G=I.G->cA c ρ s a w->wpAnyIn (WF ro) n P .any ops ((aQ.n sf).post c ρ) ops.size (u_ ops.size false) a {w with drawn:=w.drawn+1}:=by
 unfold drawn at h
 cases hp:gP I ops (PM.of ops.toList {n:=0,l:=[]})&&t_ (s.H.n+ops.size) N with
 |false=>rw[hp]at h;exact zR
 |true=>
  rw[hp]at h
  simp only[bf]at hp
  obtain⟨hplan,hN⟩:=hp
  have hplan:gP I ops (bz ops)=true:=hplan
  have hN:s.H.n+ops.size<=N:=jX hN
  have T:Gj I ops (lO I 0 ops.toList):=λi o ho hc U=>by
   obtain⟨u,V,rfl⟩:=hc
   have:=tN (I:=I) (i:=0) (os:=ops.toList) (t:=i) (by simpa using ho) V U
   simpa using this
  obtain⟨s0,d⟩:∃s0,s0=s.heap (s.H.up (s.H.n+ops.size)):=⟨_,rfl⟩
  have t0:iI P I ops (bz ops) (lO I 0 ops.toList) s.H.n N s0 0 (λ_=>{ix:=0,o:=default,s:=s0,out:=.skip}) s0 :=
   ⟨λj S=>O,λj S=>O,λj S=>O,rfl,λj h v u Hh S=>O,λj h v u Hh S=>O⟩
  obtain⟨sf,E,g,ht⟩:=Gk hX hI C f T (p:=bz ops) (K:=k.n) ops.toList 0 s0 _ rfl (z_ _) t0 (by rw[d];exact h)
  refine⟨sf,g,λro n c ρ a w hG q=>?_⟩
  have D:Rel c ρ s0.H {w with drawn:=w.drawn+1}:=by
   rw[d];exact(q.heap.up (Nat.le_add_right _ _)).drawn _
  have F:s0.nt=s.nt:=by rw[d];rfl
  have J:s0.t=s.t:=by rw[d];rfl
  have L:s0.df=s.df:=by rw[d];rfl
  have ab:s0.H.n=s.H.n+ops.size:=by rw[d];rfl
  have y:∀l,s.H.n<=l->s0.H.get l= .dead:=λl hl=>by rw[d];exact q.heap.low l hl
  obtain⟨m,_,k2,k3,W⟩:=qy E ops.size ops.size 0 O
  have e:∀i,¬ dH (u_ ops.size false) i:=λi=>by
   unfold dH
   rw[B,Array.getElem?_replicate]
   by_cases hi:i<ops.size<;>simp[hi]
  have Z:0+(m-0)=m:=O
  have M:=nF hplan ht (m-0) 0 O λh g Q=>W h g O
  rw[Z]at M
  refine R3 hplan ht O y (λl hl=>(q.heap.env l hl).1) hG ops.size (d_ ops.size) _ m ρ s0.H a _ zA List.nodup_range (λi hi=>?_) (λi hi=>List.mem_range.1 hi) ?_
  ·exact⟨λ_=>List.mem_range.2 hi,λ_=>e i⟩
  ·refine⟨zA,λj o _ hl=>absurd hl (e j),k2,λU=>⟨k3 U,e m⟩,λh g Q=>absurd Q (W h (z_ _) g),M.symm,O,λx _ _ hl=>absurd hl (e x),λx v b _ _ hl=>absurd hl (e x),λx hx hf _=>⟨y _ O,q.heap.top _ O⟩,λl hl=>?_,D,Ext.refl ρ,by rw[F];exact q.tmp.1,λu V=>?_,λx hx _ u _ hw=>?_,by rw[L];exact q.df⟩
   ·have:=ll hplan ht (l:=l) (m-0) 0 O (λk g Q hh=>absurd hh (W k g O)) (λa g Q hf=>hl a O hf)
    rw[Z]at this
    exact this.symm
   ·have:=q.tmp.2 u
    rw[J]
    have Y:a.tmps.getD u undef=undef:=by
     rw[B,p_ (by rw[q.tmp.1,<-F];exact v_ V)]
     rfl
    rw[Y]at this
    exact this
   ·have:=qx hplan ht (u:=u) (x-0) 0 O λj g Q hd=>e j (hw j O hd)
    have Y:0+(x-0)=x:=O
    rw[Y]at this
    rw[this]
    show VR ρ (cR s0.t u) _
    rw[J]
    exact q.tmp.2 u
include hX hI in
theorem KX(N:Nat):ou P I sem (drawn X I N):=by
 intro e round d b ops k s h
 obtain⟨sf,f,g⟩:=sG hX hI N d b h
 exact⟨.n sf,f,λro n c ρ a w id hG i=>wpIn_region_any hI.mixed (g ro n c ρ a w hG i)⟩
def Tp(o:Oper):Bool:=match o.op with
 | .call {callee:=.value _,..}=>true
 |_=>false
def Ea(I:ba)(ops:Array Oper):Bool :=
 match ops.back? with
 |none=>false
 |some o=>Tp o&&gP I ops (bz ops)&&gP I ops.pop (bz ops.pop)&&(d_ ops.pop.size).all (λi=>(bz ops).pre i ops.pop.size)&&
   ops.pop.toList.all (λo=>match o.guard with|none=>true|some (j,_)=>m_ j ops.pop.size)
def vQ(X:RI R)(I:ba)(N:Nat):ot R:=λa round ops k s=>
 bif Ea I ops then drawn X I N a round ops.pop {k with n:=λb=>match ops.back? with
  |some o=>l4 X I a round ops k [o] b
  |none=>X.fail} s
 else drawn X I N a round ops k s
end
end
end
end Go.Sx
