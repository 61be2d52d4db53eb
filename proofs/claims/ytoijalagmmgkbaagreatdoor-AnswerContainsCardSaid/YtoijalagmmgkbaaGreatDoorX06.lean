/- The proof of a statement of the seat, part 6. -/
import Derived.Test.YtoijalagmmgkbaaGreatDoorX05
set_option linter.all false
set_option linter.defProp false
set_option maxRecDepth 1000000
namespace Go.Sx
open Go
open _root_.Array renaming getD_eq_getD_getElem?->B,getElem?_eq_getElem->b_,getElem?_setIfInBounds->g_,ext'->t_
open Option renaming some->z,none->n_
open Bool renaming eq_false_iff->a_,not_true->l_,false_or->m_
open Decidable renaming decide->c_
open List renaming mem_cons_of_mem->d_,range->e_,mem_cons_self->i_
open Nat renaming beq->f_,blt->k_,blt_eq->o_,le_of_not_lt->q_,le_trans->r_,lt_of_lt_of_le->u_,strongRecOn->v_,ble->x_,le_of_lt->y_,lt_or_ge->z_
open AH renaming get_set_same->h_,bk->w_,bH->A_
open Function renaming comp_def->j_
open Classical renaming byContradiction->p_
noncomputable section
section
section
variable {R:Type} {X:RI R} {sem:R->Prop} (hX:X.Ok sem) {I:ba} {P:Program} (hI:I.Ok P)
theorem KO{k:KS R}{s:St}{b:Option Code}(h:sem (mA X k s b))(hX:X.Ok sem):∃e:aQ,e.sem sem k/\
  ∀ro n c ρ a w,cA c ρ s a w->(match b with|none=>e.post c ρ .normal a w|some j=>j.wpIn (WF ro) n P (e.post c ρ) a w):=by
 unfold mA at h
 split at h
 ·exact⟨.n s,h,λro n c ρ a w d=>⟨ρ,Ext.refl ρ,d⟩⟩
 ·exact⟨.r s,h,λro n c ρ a w d=>wpIn_ret ⟨ρ,Ext.refl ρ,d⟩⟩
 ·rename_i i
  exact⟨.x i s,h,λro n c ρ a w d=>wpIn_exit ⟨rfl,ρ,Ext.refl ρ,d⟩⟩
 ·rename_i i
  exact⟨.g i s,h,λro n c ρ a w d=>wpIn_goto ⟨rfl,ρ,Ext.refl ρ,d⟩⟩
 ·exact zS
include hX hI in
theorem D5{Γ:FuncId->Option (Spec R)}(b9:rl P I sem Γ){Λ:gy R}(b1:eR P I sem Λ){dr:ot R}(cc:ou P I sem dr){rec:kf R}(Q:vE P I sem rec):vE P I sem (Sl X I Γ Λ dr rec):=by
 intro ir t s k h
 have W:gN P I sem (nB X I Γ rec):=pk hX hI b9 Q
 have Y:hZ P I sem (roundOf X rec):=vJ hX Q
 have ag:∀{t1 t2:Task}{s:St},sem (rec ir t1 s {k with n:=λs'=>rec ir t2 s' k})->
   ∃e:aQ,e.sem sem k/\∀ro n c ρ a w,(ir=false->ro=n_)->c.G=I.G->cA c ρ s a w->fG (WF ro) n P t1 (Exit.then (fG (WF ro) n P t2 (e.post c ρ)) (e.post c ρ)) a w:=by
  intro t1 t2 s h
  obtain⟨e1,K,L⟩:=Q _ _ _ _ h
  cases e1 with
  |n s1=>
   obtain⟨e2,h3,h4⟩:=Q _ _ _ _ K
   refine⟨e2,h3,λro n c ρ a w q hG E=>(L ro n c ρ a w q hG E).mono λx a1 U J=>?_⟩
   cases x with
   |normal=>
    obtain⟨T,hx,Z⟩:=J
    exact(h4 ro n c T a1 U q hG Z).mono λx a2 w2 J=>aQ.gO hx J
   |_=>exact J.elim
  |x i s1=>
   refine⟨.x i s1,K,λro n c ρ a w q hG E=>(L ro n c ρ a w q hG E).mono λx a1 U J=>?_⟩
   cases x with
   |exit id=>exact J
   |_=>exact J.elim
  |g i s1=>
   refine⟨.g i s1,K,λro n c ρ a w q hG E=>(L ro n c ρ a w q hG E).mono λx a1 U J=>?_⟩
   cases x with
   |goto id=>exact J
   |_=>exact J.elim
  |r s1=>
   refine⟨.r s1,K,λro n c ρ a w q hG E=>(L ro n c ρ a w q hG E).mono λx a1 U J=>?_⟩
   cases x with
   |ret=>exact J
   |_=>exact J.elim
  |p v s1=>
   refine⟨.p v s1,K,λro n c ρ a w q hG E=>(L ro n c ρ a w q hG E).mono λx a1 U J=>?_⟩
   cases x with
   |panic ch=>exact J
   |_=>exact J.elim
 unfold Sl at h
 split at h
 ·
  rename_i c
  obtain⟨e,K,L⟩:=ag h
  exact⟨e,K,λro n C ρ a w q hG E=>mB _ (.inl A) (L ro n C ρ a w q hG E)⟩
 ·
  rename_i r c
  obtain⟨e1,K,L⟩:=Q _ _ _ _ h
  cases e1 with
  |g l s1=>
   simp only[aQ.sem]at K
   split at K
   ·rename_i r' hf
    have key:∃e2:aQ,e2.sem sem k/\ew P I ir (.inScope r' c) s1 e2:=by
     split at K
     ·rename_i g hg;exact b1 _ _ _ _ hg _ K
     ·exact Q _ _ _ _ K
    obtain⟨e2,h3,h4⟩:=key
    refine⟨e2,h3,λro n C ρ a w q hG E=>iR ((L ro n C ρ a w q hG E).mono λx a1 U J=>?_)⟩
    cases x with
    |goto m=>
     obtain⟨rfl,T,hx,Z⟩:=J
     simp only[mC,hf]
     exact(h4 ro n C T a1 U q hG Z).mono λx a2 w2 J=>aQ.gO hx J
    |_=>exact J.elim
   ·rename_i hf
    refine⟨.g l s1,K,λro n C ρ a w q hG E=>iR ((L ro n C ρ a w q hG E).mono λx a1 U J=>?_)⟩
    cases x with
    |goto m=>
     have ai:=J
     obtain⟨rfl,_⟩:=ai
     simp only[mC,hf]
     exact J
    |_=>exact J.elim
  |n s1=>
   refine⟨.n s1,K,λro n C ρ a w q hG E=>iR ((L ro n C ρ a w q hG E).mono λx a1 U J=>?_)⟩
   cases x<;>first|exact J|exact J.elim
  |x i s1=>
   refine⟨.x i s1,K,λro n C ρ a w q hG E=>iR ((L ro n C ρ a w q hG E).mono λx a1 U J=>?_)⟩
   cases x<;>first|exact J|exact J.elim
  |r s1=>
   refine⟨.r s1,K,λro n C ρ a w q hG E=>iR ((L ro n C ρ a w q hG E).mono λx a1 U J=>?_)⟩
   cases x<;>first|exact J|exact J.elim
  |p v s1=>
   refine⟨.p v s1,K,λro n C ρ a w q hG E=>iR ((L ro n C ρ a w q hG E).mono λx a1 U J=>?_)⟩
   cases x<;>first|exact J|exact J.elim
 ·rename_i c
  split at h
  ·exact⟨.n s,h,λro n C ρ a w q hG E=>wpIn_skip ⟨ρ,Ext.refl ρ,E⟩⟩
  ·rename_i id ops
   obtain⟨e,K,L⟩:=BB hX hI W Y h id
   exact⟨e,K,λro n C ρ a w q hG E=>L ro n C ρ a w hG E⟩
  ·rename_i id ops
   obtain⟨e,K,L⟩:=cc _ _ W Y _ _ _ h
   exact⟨e,K,λro n C ρ a w q hG E=>L ro n C ρ a w id hG E⟩
  ·obtain⟨e,K,L⟩:=ag h
   exact⟨e,K,λro n C ρ a w q hG E=>wpIn_seq (L ro n C ρ a w q hG E)⟩
  ·rename_i cd x y
   split at h
   ·rename_i b hb
    have hc:=hX.cond _ _ _ h
    have hv:∀C ρ a w,C.G=I.G->cA C ρ s a w->a.eval cd= .bool b:=λC ρ a w hG E=>by
     have:=E.ev hG cd
     rw[hb]at this
     simpa only[VR]using this
    cases b with
    |true=>
     obtain⟨e,K,L⟩:=Q _ _ _ _ (by simpa using hc)
     exact⟨e,K,λro n C ρ a w q hG E=>wpIn_cond_true (hv C ρ a w hG E) (L ro n C ρ a w q hG E)⟩
    |false=>
     obtain⟨e,K,L⟩:=Q _ _ _ _ (by simpa using hc)
     exact⟨e,K,λro n C ρ a w q hG E=>wpIn_cond_false (hv C ρ a w hG E) (L ro n C ρ a w q hG E)⟩
   ·exact zS
  ·rename_i id c
   obtain⟨e1,K,L⟩:=Q _ _ _ _ h
   cases e1 with
   |x i s1=>
    simp only[aQ.sem]at K
    cases hi:f_ i id with
    |true=>
     rw[hi]at K
     have cf:=dE hi
     subst cf
     refine⟨.n s1,K,λro n C ρ a w q hG E=>wpIn_block (wpIn_mono (L ro n C ρ a w q hG E) λx a1 U J=>?_)⟩
     cases x with
     |exit j=>
      obtain⟨rfl,J⟩:=J
      simp only[Exit.inBlock,if_true]
      exact J
     |_=>exact J.elim
    |false=>
     rw[hi]at K
     have cp :¬ i=id:=λe=>by subst e;have:f_ i i=true:=ni i;rw[this]at hi;cases hi
     refine⟨.x i s1,K,λro n C ρ a w q hG E=>wpIn_block (wpIn_mono (L ro n C ρ a w q hG E) λx a1 U J=>?_)⟩
     cases x with
     |exit j=>
      have ai:=J
      obtain⟨rfl,_⟩:=ai
      simp only[Exit.inBlock,if_neg cp]
      exact J
     |_=>exact J.elim
   |n s1=>
    refine⟨.n s1,K,λro n C ρ a w q hG E=>wpIn_block (wpIn_mono (L ro n C ρ a w q hG E) λx a1 U J=>?_)⟩
    cases x<;>first|exact J|exact J.elim
   |g i s1=>
    refine⟨.g i s1,K,λro n C ρ a w q hG E=>wpIn_block (wpIn_mono (L ro n C ρ a w q hG E) λx a1 U J=>?_)⟩
    cases x<;>first|exact J|exact J.elim
   |r s1=>
    refine⟨.r s1,K,λro n C ρ a w q hG E=>wpIn_block (wpIn_mono (L ro n C ρ a w q hG E) λx a1 U J=>?_)⟩
    cases x<;>first|exact J|exact J.elim
   |p v s1=>
    refine⟨.p v s1,K,λro n C ρ a w q hG E=>wpIn_block (wpIn_mono (L ro n C ρ a w q hG E) λx a1 U J=>?_)⟩
    cases x<;>first|exact J|exact J.elim
  ·rename_i c
   split at h
   ·rename_i g hg
    exact b1 _ _ _ _ hg _ h
   ·obtain⟨e,K,L⟩:=ag h
    exact⟨e,K,λro n C ρ a w q hG E=>mB _ (.inr A) (L ro n C ρ a w q hG E)⟩
  ·rename_i f ps as bd
   split at h
   ·rename_i g first b2 cr
    split at h
    ·rename_i hg
     obtain⟨⟨cg,ng,rg⟩,aj⟩:=Option.isSome_iff_exists.1 hg
     obtain⟨ef,ee,eg,_,_,ap⟩:=hI.body g cg ng rg aj
     have enter:=ap
     obtain⟨o,K,L⟩:=W _ _ _ _ _ h
     have cv:∀C ρ (a:Act) w,cA C ρ s a w->∀fn,∃O b N D M w2,Ext ρ O/\O (s.H.n+1)=z (b,N)/\O s.H.n=z (D,M)/\
       Rel C O ((s.H.new .tE).new (.loop .ready n_ s.t s.nt ps.toList as bd s.H.n)) w2/\
       (Instr.enterLoop fn a.tmps ps as bd n_).run P w= .ok (b,[{target:=.collected D,args := #[]}]) w2:=by
      intro C ρ a w E fn
      obtain⟨b3,Z⟩:=E.heap.new (.deferred (z [])) 0 .tE λw' az=>⟨_,_,rfl,az⟩
      obtain⟨S,V⟩:=Z.new (.loop {state:=.ready,pending:=n_,fn:=fn,tmps:=a.tmps,params:=ps,assign:=as,body:=bd,defers:=w.heap.size}) 0 (.loop .ready n_ s.t s.nt ps.toList as bd s.H.n) λw' az=>by
       refine⟨_,_,w.heap.size,0,fn,a.tmps,rfl,?_,E.tmp.ext (b3.trans (Env.nk _ (Z.top _ (dw _)))),by simpa using az⟩
       rw[Env.ec _ _ zB]
       exact Env.cP _ _ _
      refine⟨_,_,0,w.heap.size,0,_,b3.trans S,Env.cP _ _ _,?_,V,?_⟩
      ·rw[Env.ec _ _ zB]
       exact Env.cP _ _ _
      ·rw[run_enterLoop_outer]
       simp only[World.alloc,Array.size_push]
     have b4:∀e:aQ,(∀n C ρ (a:Act) (U:World) T d N D M en,C.G=I.G->Ext ρ T->T (s.H.n+1)=z (d,N)->T s.H.n=z (D,M)->uw T s.t s.nt a.tmps->Gh T s.df a.defers->
       o.post C T en U->rangePost (WF n_) n P d (e.post C ρ) {a with defers:=[{target:=.collected D,args := #[]}]++a.defers} en U)->
       ∀ro n C ρ a w,ro=n_->C.G=I.G->cA C ρ s a w->(Code.rangeFunc f ps as bd).wpIn (WF ro) n P (e.post C ρ) a w:=by
      intro e a6 ro n C ρ a w q hG E
      subst q
      refine wpIn_rangeFunc λfn _=>?_
      obtain⟨O,b,N,D,M,w2,hx,hb,hD,V,b5⟩:=cv C ρ a w E fn
      have hv:=E.ev hG f
      rw[cr]at hv
      simp only[VR]at hv
      obtain⟨us,vs,c6,dk,dt⟩:=hv
      have a7:aU O (first++ .yield (s.H.n+1)::b2) (us++ .func (.yield b) #[] #[]::vs):=
       (aU.ext hx _ _ dk).append (aU.aL.2 ⟨by simp only[VR];exact⟨b,N,hb,rfl⟩,aU.ext hx _ _ dt⟩)
      have e1:us.toArray++ #[Value.func (.yield b) #[] #[]]++vs.toArray=(us++ .func (.yield b) #[] #[]::vs).toArray:=by apply t_;simp
      refine⟨b,_,w2,{target:=.fn (.func g) vs.toArray,args:=us.toArray++ #[.func (.yield b) #[] #[]]},w2,g,(us++ .func (.yield b) #[] #[]::vs).toArray,w2,b5,?_,λ_ _=>trivial,?_,λhh=>by simp[WF,Fence.wide]at hh,?_⟩
      ·have e2:Array.map a.eval #[Operand.const (Value.func (Fn.yield b) #[] #[])]= #[Value.func (.yield b) #[] #[]]:=by simp[Act.eval]
       simp only[resolve,c6,Deferred.ofValue,Sem.run_pure,e2]
      ·simp only[invoke,e1,enter]
      ·rcases L C O w2 _ hG a7 V with⟨_,k2⟩|⟨v,w',k1,_⟩
       ·refine CallsIn.mono (F:=WF n_) (R:=o.post C O) ?_ λen w' J=>?_
        ·have b6:CallsIn Fence.wide (n-1) P g (us++ .func (.yield b) #[] #[]::vs).toArray w2 (o.post C O):=callsIn_wide.2 k2
         exact b6
        ·exact a6 n C ρ a w' O b N D M en hG hx hb hD (E.tmp.ext hx) (E.df.ext hx) J
       ·rw[enter]at k1;cases k1
     cases o with
     |ret v H'=>
      simp only[CO.sem]at K
      have done:∀pd (st:LoopState) t nt a8 bq bs b7,H'.get (s.H.n+1)= .loop st pd t nt a8 bq bs b7->st≠ .busy->sem (mA X k {s with H:=H'.set (s.H.n+1) .dead,df:=s.H.n::s.df} pd)->
        ∃e:aQ,e.sem sem k/\∀ro n C ρ a w,(false=false->ro=n_)->C.G=I.G->cA C ρ s a w->fG (WF ro) n P (.code (.rangeFunc f ps as bd)) (e.post C ρ) a w:=by
       intro pd st t nt a8 bq bs b7 hl dv K
       obtain⟨e,h3,h4⟩:=KO (P:=P) K hX
       refine⟨e,h3,λro n C ρ a w q hG E=>b4 e (λn C ρ a U T d N D M en hG hx hd hD ht b0 J=>?_) ro n C ρ a w (q A) hG E⟩
       cases en with
       |returned u=>
        obtain⟨O,S,V,hv⟩:=J
        have ad:=V.dF (s.H.n+1)
        rw[hl,S _ _ hd]at ad
        obtain⟨b',N',dd,MM,fn,us,g1,g2,g3,g4⟩:=ad
        cases g1
        have b8:=run_endLoop (P:=P) g4 dv
        have ea:Rel C O (H'.set (s.H.n+1) .dead) (U.putObj d (.loop {state:=.exhausted,pending:=pd,fn:=fn,tmps:=us,params:=a8.toArray,assign:=bq,body:=bs,defers:=dd})):=
         V.fC .dead (by rw[hl];rfl) (S _ _ hd) (λk hk=>World.putObj_heap_other hk) World.putObj_size A A A trivial
        have ed:cA C O {s with H:=H'.set (s.H.n+1) .dead,df:=s.H.n::s.df} {a with defers:=[{target:=.collected D,args := #[]}]++a.defers} _ :=
         ⟨ht.ext S,ea,D,M,a.defers,S _ _ hD,rfl,b0.ext S⟩
        refine⟨pd,_,b8,?_⟩
        have:=h4 n_ n C O _ _ ed
        cases pd with
        |none=>exact aQ.gO (hx.trans S) this
        |some j=>exact wpIn_mono this λx a w J=>aQ.gO (hx.trans S) J
       |panicked ch=>exact J.elim
       |outgrown=>exact J.elim
      split at K
      ·rename_i hl
       exact done _ _ _ _ _ _ _ _ hl zB K
      ·rename_i hl
       exact done _ _ _ _ _ _ _ _ hl zB K
      ·exact absurd K hX.fail
     |qt v H'=>
      refine⟨.p v {s with H:=H',df:=s.H.n::s.df},K,λro n C ρ a w q hG E=>b4 _ (λn C ρ a U T d N D M en hG hx hd hD ht b0 J=>?_) ro n C ρ a w (q A) hG E⟩
      cases en with
      |panicked ch=>
       obtain⟨O,u,rfl,S,V,hv⟩:=J
       exact⟨O,u,rfl,hx.trans S,⟨ht.ext S,V,D,M,a.defers,S _ _ hD,rfl,b0.ext S⟩,hv⟩
      |returned u=>exact J.elim
      |outgrown=>exact J.elim
    ·exact zS
   ·exact zS
  ·rename_i id
   exact⟨.x id s,h,λro n C ρ a w q hG E=>wpIn_exit ⟨rfl,ρ,Ext.refl ρ,E⟩⟩
  ·rename_i c
   obtain⟨e,K,L⟩:=Q _ _ _ _ h
   exact⟨e,K,λro n C ρ a w q hG E=>KN (L ro n C ρ a w q hG E)⟩
  ·exact⟨.n s,h,λro n C ρ a w q hG E=>wpIn_label ⟨ρ,Ext.refl ρ,E⟩⟩
  ·rename_i l
   exact⟨.g l s,h,λro n C ρ a w q hG E=>wpIn_goto ⟨rfl,ρ,Ext.refl ρ,E⟩⟩
  ·exact⟨.r s,h,λro n C ρ a w q hG E=>wpIn_ret ⟨ρ,Ext.refl ρ,E⟩⟩
  ·exact zS
include hX hI in
theorem D6{d:FuncId->Option (Spec R)}(a:rl P I sem d){e:gy R}(b:eR P I sem e){dr:ot R}(c:ou P I sem dr):∀fuel,vE P I sem (run X I d e dr fuel)
 |0=>λ_ _ _ _ h=>zS
 |fuel+1=>D5 hX hI a b c (D6 a b c fuel)
end
end
mutual
def AV.bD(σ:Nat->Nat):AV->AV
 | .ptr l k e j=> .ptr (σ l) k e j
 | .slice l b k len cap e=> .slice (σ l) b k len cap e
 | .own l len e=> .own (σ l) len e
 | .map (z l)=> .map (z (σ l))
 | .fn f a b=> .fn f (bt.bD σ a) (bt.bD σ b)
 | .yield l=> .yield (σ l)
 | .iface t a=> .iface t (a.bD σ)
 | .agg cs=> .agg (bt.bD σ cs)
 | .bK cs=> .bK (bt.bD σ cs)
 | .bool b=> .bool b
 | .int k n=> .int k n
 | .str s=> .str s
 | .nilPtr=> .nilPtr
 | .aw=> .aw
 | .map n_=> .map n_
 | .aB=> .aB
 | .nilIface=> .nilIface
 | .any=> .any
 | .fc cs j=> .fc cs j
 | .ab len e f=> .ab len e f
 | .addr b j=> .addr b j
def bt.bD(σ:Nat->Nat):List AV->List AV
 |[]=>[]
 |a::as=>a.bD σ::bt.bD σ as
end
structure uy (σ:Nat->Nat) (ρ ρ':Env):Prop where
 Pa:∀l x,ρ l=z x->ρ' (σ l)=z x
 fz:∀b vs,ρ.fz b=z vs->ρ'.fz b=z vs
instance {σ:Nat->Nat}{ρ ρ':Env}:CoeFun (uy σ ρ ρ') (λ_=> ∀l x,ρ l=z x->ρ' (σ l)=z x):=⟨uy.Pa⟩
def uy.bare{σ:Nat->Nat}{ρ ρ':Env}(h:uy σ ρ ρ'):Ext ρ.bare ρ'.bare:=⟨λ_ _ e=>zC,h.fz⟩
mutual
def VR.bD{σ:Nat->Nat}{ρ ρ':Env}(h:uy σ ρ ρ'):∀(a:AV)(v:Value),VR ρ a v->VR ρ' (a.bD σ) v
 | .bool _,_,k=>zD
 | .int _ _,_,k=>zD
 | .str _,_,k=>zD
 | .nilPtr,_,k=>zD
 | .ptr l _ _ _,v,k=>by
  simp only[VR,AV.bD]at k⊢
  obtain⟨b,N,e,r⟩:=k
  exact⟨b,N,h _ _ e,r⟩
 | .slice l _ _ _ _ _,v,k=>by
  simp only[VR,AV.bD]at k⊢
  obtain⟨b,N,c,a,e,r⟩:=k
  exact⟨b,N,c,a,h _ _ e,r⟩
 | .aw,_,k=>zD
 | .own l len e,v,k=>by
  simp only[VR,AV.bD]at k⊢
  rcases k with k|⟨b,N,c,e,r⟩
  ·exact .inl k
  ·exact .inr ⟨b,N,c,h _ _ e,r⟩
 | .map n_,_,k=>zD
 | .map (z l),v,k=>by
  simp only[VR,AV.bD]at k⊢
  obtain⟨b,N,e,r⟩:=k
  exact⟨b,N,h _ _ e,r⟩
 | .fn f first m,v,k=>by
  simp only[VR,AV.bD]at k⊢
  obtain⟨us,vs,e,r,s⟩:=k
  exact⟨us,vs,e,aU.bD h first us r,aU.bD h m vs s⟩
 | .yield l,v,k=>by
  simp only[VR,AV.bD]at k⊢
  obtain⟨b,N,e,r⟩:=k
  exact⟨b,N,h _ _ e,r⟩
 | .aB,_,k=>zD
 | .addr _ _,_,k=>zD
 | .nilIface,_,k=>zD
 | .iface t a,v,k=>by
  simp only[VR,AV.bD]at k⊢
  obtain⟨u,e,r⟩:=k
  exact⟨u,e,VR.bD h a u r⟩
 | .agg cs,v,k=>by
  simp only[VR,AV.bD]at k⊢
  obtain⟨vs,e,r⟩:=k
  exact⟨vs,e,aU.bD h cs vs r⟩
 | .bK cs,v,k=>by
  simp only[VR,AV.bD]at k⊢
  obtain⟨vs,e,r⟩:=k
  exact⟨vs,e,aU.bD h cs vs r⟩
 | .any,_,_=>by simp only[VR,AV.bD]
 | .fc cs j,v,hk=>by
  simp only[VR,AV.bD]at hk⊢
  obtain⟨b,q,vs,o,w,d⟩:=hk
  exact⟨b,q,vs,o,w.mono h.fz,aU.ext h.bare _ _ d⟩
 | .ab len e f,v,hk=>by
  simp only[VR,AV.bD]at hk⊢
  rcases hk with hk|⟨b,q,c,a,y,o,w,d⟩
  ·exact .inl hk
  ·exact .inr ⟨b,q,c,a,y,o,w,λhl=>⟨(d hl).1,(d hl).2.1.mono h.fz,λi hi=>⟨((d hl).2.2 i hi).1,aU.ext h.bare _ _ ((d hl).2.2 i hi).2⟩⟩⟩
def aU.bD{σ:Nat->Nat}{ρ ρ':Env}(h:uy σ ρ ρ'):∀(as:List AV)(vs:List Value),aU ρ as vs->aU ρ' (bt.bD σ as) vs
 |[],_,k=>by simpa only[aU,bt.bD]using k
 |a::as,vs,k=>by
  simp only[aU,bt.bD]at k⊢
  obtain⟨u,us,e,r,s⟩:=k
  exact⟨u,us,e,VR.bD h a u r,aU.bD h as us s⟩
end
def bt.l5(σ:Nat->Nat):∀as:List AV,bt.bD σ as=as.map (AV.bD σ)
 |[]=>by simp[bt.bD]
 |a::as=>by simp[bt.bD,bt.l5 σ as]
def Tr.map{α a:Type}(f:α->a):Tr α->Tr a
 | .e=> .e
 | .n l v r=> .n (l.map f) (match v with|some x=>z (f x)|none=>n_) (r.map f)
def Tr.get_map{α a:Type}(f:α->a):∀(t:Tr α)(i:Nat),(t.map f).get i=(t.get i).map f
 | .e,i=>rfl
 | .n l v r,i=>by
  simp only[Tr.map,Tr.get]
  cases f_ i 0
  ·cases f_ (i%2) 1
   ·simp only[cond_false];exact Tr.get_map f r _
   ·simp only[cond_true,cond_false];exact Tr.get_map f l _
  ·cases v<;>rfl
def ABlk.bD(σ:Nat->Nat):ABlk->ABlk
 | .cells cs rw=> .cells (bt.bD σ cs) rw
 | .rows n e f rw=> .rows n e (λi=>bt.bD σ (f i)) rw
 | .str s rw=> .str s rw
 | .map es=> .map (es.map λx=>(x.1.bD σ,x.2.bD σ))
 | .loop a b t nt c as d df=> .loop a b (t.map (AV.bD σ)) nt c as d (σ df)
 | .tE=> .tE
 | .iter l=> .iter (σ l)
 | .iy n K=> .iy n K
 | .dX l since S=> .dX (σ l) since S
 | .cT n K Q foc=> .cT n K (λi=>(Q i).bD σ) (foc.map λx=>(x.1,x.2.bD σ))
 | .dead=> .dead
def qu(σ:Nat->Nat)(c:List (AV×AV)):dL (c.map λx=>(x.1.bD σ,x.2.bD σ))=dL c:=by
 cases c with
 |nil=>rfl
 |cons e c=>
  obtain⟨a,b⟩:=e
  cases a<;>first|rfl|(rename_i x;cases x<;>rfl)
def qv(σ:Nat->Nat)(c:List (AV×AV)):gK (c.map λx=>(x.1.bD σ,x.2.bD σ))=(gK c).map λx=>(x.1.bD σ,x.2.bD σ):=by
 cases c with
 |nil=>rfl
 |cons e c=>
  obtain⟨a,b⟩:=e
  cases a<;>first|rfl|(rename_i x;cases x<;>rfl)
def ABlk.qw(σ:Nat->Nat)(b:ABlk):(b.bD σ).rw=b.rw:=by
 cases b with
 |map es=>show(!dL (es.map λx=>(x.1.bD σ,x.2.bD σ)))=!dL es;rw[qu]
 |_=>rfl
def ABlk.KP{σ:Nat->Nat}{b:ABlk}:b.bD σ= .dead↔b= .dead:=by cases b<;>simp[ABlk.bD]
def aJ.bD{σ:Nat->Nat}{ρ ρ':Env}(h:uy σ ρ ρ'){w:World}{o:Option (Nat×Nat)}{cs:List AV}{rw:Access}(k:aJ ρ w o cs rw):aJ ρ' w o (bt.bD σ cs) rw:=by
 rcases k with⟨rfl,k⟩|⟨b,N,vs,rest,el,fr,h1,c,d,f,a⟩
 ·exact .inl ⟨by simp[bt.bD],k⟩
 ·exact .inr ⟨b,N,vs,rest,el,fr,h1,c,d,aU.bD h _ _ f,a.1,a.2.1,λe=>h.fz _ _ (a.2.2 e)⟩
def pZ(σ:Nat->Nat)(s:List UInt8):bt.bD σ (byteCells s)=byteCells s:=by
 rw[bt.l5];simp[byteCells,AV.bD,j_]
def bp.bD{σ:Nat->Nat}{ρ ρ':Env}(h:uy σ ρ ρ'){w:World}{o:Option (Nat×Nat)}{b:ABlk}(k:bp ρ w o b):bp ρ' w o (b.bD σ):=by
 cases b with
 |cells cs rw=>exact aJ.bD h k
 |rows n e f rw=>
  refine⟨λi hi=>by simp only[bt.l5,List.length_map];exact k.1 i hi,?_⟩
  have:=aJ.bD h k.2
  have E:bt.bD σ (rowsOf n f)=rowsOf n (λi=>bt.bD σ (f i)):=by
   simp only[bt.l5,rowsOf,List.map_flatMap]
  rw[E]at this
  exact this
 |str s rw=>have:=aJ.bD h (cs:=byteCells s) k;rw[pZ]at this;exact this
 |map es=>
  obtain⟨b,N,ms,y,q,v,⟨D,c,C,F,G⟩,H⟩:=k
  refine⟨b,N,ms,y,q,v,⟨D,?_,?_,by rw[qu];exact F,G⟩,λe=>H zQ⟩
  ·have:=aU.bD h _ _ c
   rw[qv]
   simpa [bt.l5,j_]using this
  ·have:=aU.bD h _ _ C
   rw[qv]
   simpa [bt.l5,j_]using this
 |loop I J t nt L as O df=>
  obtain⟨b,N,d,M,fn,vs,q,v,c,C⟩:=k
  refine⟨b,N,d,M,fn,vs,q,h _ _ v,⟨c.1,λi=>?_⟩,C⟩
  have:=VR.bD h _ _ (c.2 i)
  unfold cR at this⊢
  rw[Tr.get_map]
  cases ht:t.get i with
  |none=>simp[VR]
  |some a=>rw[ht]at this;simpa using this
 |tE=>exact k
 |iter l=>
  obtain⟨b,N,m,M,since,last,q,v,c⟩:=k
  exact⟨b,N,m,M,since,last,q,h _ _ v,c⟩
 |iy n K=>exact k
 |dX l since S=>
  obtain⟨b,N,m,M,q,v,c⟩:=k
  exact⟨b,N,m,M,q,h _ _ v,c⟩
 |cT n K Q foc=>
  obtain⟨b,N,u,q,v,c,C⟩:=k
  refine⟨b,N,u,q,v,λi hi=>VR.bD h _ _ (c i hi),λj a e=>?_⟩
  cases foc with
  |none=>cases e
  |some x=>cases e;exact⟨(C _ _ A).1,VR.bD h _ _ (C _ _ A).2⟩
 |dead=>trivial
def AH.blank(N:Nat):AH:={n:=N,t:=.e}
def AH.up(H:AH)(N:Nat):AH:={n:=N,t:=H.t}
def Rel.up{c:fw}{ρ:Env}{H:AH}{w:World}(h:Rel c ρ H w){N:Nat}(a:H.n<=N):Rel c ρ (H.up N) w :=
 ⟨h.dF,h.sep,h.gL,h.gH,h.size,h.os,h.output,h.tape,λl hl=>h.top l (r_ a hl),h.fp,h.hid,λl hl=>⟨u_ (h.env l hl).1 a,(h.env l hl).2⟩,λl hl=>h.low l (r_ a hl),h.qY,h.pV,h.sn,h.qZ⟩
def fw.blank(c:fw)(ρ:Env)(H:AH)(w:World)(N:Nat):fw:=c.xN ρ (H.up N) w λ_=>True
def Rel.blank{c:fw}{ρ:Env}{H:AH}{w:World}(h:Rel c ρ H w){N:Nat}(a:H.n<=N):Rel (c.blank ρ H w N) ρ (.blank N) w :=
 (h.up a).xN (HM:=.blank N) A λ_=> .inl ⟨trivial,rfl⟩
def Rel.Th{c:fw}{ρ ρ':Env}{H H':AH}{w w':World}(h:Rel c ρ H w){N:Nat}(f:H.n<=N)(d:Rel (c.blank ρ H w N) ρ' H' w')(i:H'.n=N):Ext ρ ρ'/\Rel c ρ' H w':=by
 obtain⟨j,a⟩:=(h.up f).KH (H2:=H.up N) d i.symm λ_=> .inl ⟨trivial,rfl⟩
 refine⟨j,⟨a.dF,a.sep,a.gL,a.gH,a.size,a.os,a.output,a.tape,λl hl=>?_,a.fp,a.hid,λl hl=>?_,h.low,a.qY,a.pV,a.sn,a.qZ⟩⟩
 ·by_cases b:l<N
  ·rw[(d.env l b).2];exact h.top l hl
  ·exact a.top l (q_ b)
 ·obtain⟨m,o⟩:=h.env l hl
  exact⟨m,(a.env l hl).2⟩
def kw(N ℓ:Nat)(i:Nat):Nat:=bif f_ i N then ℓ else i
def D7(N ℓ:Nat):kw N ℓ N=ℓ:=by simp[kw]
def KQ{N ℓ i:Nat}(h:i≠N):kw N ℓ i=i:=by
 have:f_ i N=false:=by rw[a_];intro e;exact h (dE e)
 simp[kw,this]
def Rel.Ti{c:fw}{ρ ρ':Env}{H H':AH}{w w':World}(h:Rel c ρ H w){N:Nat}(hN:H.n<=N)(m:Rel (c.blank ρ H w N) ρ' H' w')(hn:H'.n=N+1){ℓ:Nat}(hℓ:ℓ<H.n)(R:H.get ℓ= .dead)(S:ρ ℓ=n_)(U :¬ c.E ℓ):
  ∃f,(∀l,l≠ℓ->f l=ρ l)/\Ext ρ f/\uy (kw N ℓ) ρ' f/\Rel c f (H.set ℓ ((H'.get N).bD (kw N ℓ))) w':=by
 have dj:∀{b:ABlk},b.rw=true->b≠ .dead:=λh e=>by rw[e]at h;cases h
 obtain⟨f,s⟩:∃f:Env,f=⟨λi=>if i=ℓ then ρ' N else ρ i,ρ'.fz⟩:=⟨_,rfl⟩
 have q:f.fz=ρ'.fz:=by rw[s]
 have o:f ℓ=ρ' N:=by rw[s];simp
 have off:∀l,l≠ℓ->f l=ρ l:=λl hl=>by rw[s];simp[hl]
 have hx:Ext ρ f:=by
  refine⟨λl x e=>?_,λk vs e=>by rw[q];exact m.qZ k vs e⟩
  have:l≠ℓ:=λG=>by rw[G,S]at e;cases e
  rw[off l this];exact e
 have u:uy (kw N ℓ) ρ' f:=by
  refine⟨λl x e=>?_,λk vs e=>by rw[q];exact e⟩
  by_cases d:l=N
  ·subst d;rw[D7,o];exact e
  ·rw[KQ d]
   have L:l<N:=by
    refine Nat.lt_of_not_le λV=>?_
    have:ρ' l=n_:=m.top l O
    rw[this]at e;cases e
   have T:=(m.env l L).2
   have:l≠ℓ:=λG=>by
    subst G
    rw[T]at e
    change ρ l=z x at e
    rw[S]at e;cases e
   rw[off l this,<-e]
   exact T.symm
 have v:∀l r M,H.get l≠ .dead->ρ l=z (r,M)->(c.blank ρ H w N).Z r∨(c.blank ρ H w N).X r:=λl r M R d=>by
  cases a:(H.get l).rw with
  |true=>exact .inr (.inr ⟨l,M,trivial,a,d⟩)
  |false=>exact .inl (.inr ⟨l,M,trivial,R,a,d⟩)
 have y:∀l,l≠ℓ->(H.set ℓ ((H'.get N).bD (kw N ℓ))).get l=H.get l:=λl hl=>w_ _ _ (λe=>hl e.symm)
 have gs:(H.set ℓ ((H'.get N).bD (kw N ℓ))).get ℓ=(H'.get N).bD (kw N ℓ):=h_ _ _ _
 have P:w.heap.size<=w'.heap.size:=m.size
 refine⟨f,off,hx,u,λl=>?_,λl C r M Q J a d D=>?_,λl r M a d t=>?_,λk K=>?_,r_ h.size P,m.os.trans h.os,m.output.trans h.output,m.tape.trans h.tape,λl hl=>?_,λg W=>?_,λl r M j d t=>?_,λl hl=>?_,λl hl=>?_,λk vs e=>m.qY k vs (by rw[<-q];exact e),λl r M a d=>?_,λk K=>by rw[q];exact m.sn k (.inl K),λk vs e=>by rw[q];exact m.qZ k vs (h.qZ k vs e)⟩
 ·by_cases e:l=ℓ
  ·subst e;rw[gs,o];exact bp.bD u (m.dF N)
  ·rw[y l e,off l e]
   by_cases j:H.get l= .dead
   ·rw[j];trivial
   ·exact bp.world (λr M e=>(m.gH r (v l r M j e)).2) ((h.dF l).ext hx)
 ·by_cases e:l=ℓ
  ·subst e
   have F:C≠l:=λe=>J e.symm
   rw[gs,ABlk.qw]at a
   rw[o]at d
   rw[off C F]at D
   rw[y C F]
   apply p_
   intro j
   rcases v C r Q j D with t|t
   ·exact m.gL N r M a d t
   ·exact m.hid N r M (dj a) d t
  ·rw[y l e]at a
   rw[off l e]at d
   by_cases G:C=ℓ
   ·subst G
    rw[gs]
    rw[o]at D
    apply p_
    intro j
    exact m.hid N r Q (λe=>j (by rw[e];rfl)) D (.inr ⟨l,M,trivial,a,d⟩)
   ·rw[off C G]at D
    rw[y C G]
    exact h.sep l C r M Q J a d D
 ·by_cases e:l=ℓ
  ·subst e
   rw[gs,ABlk.qw]at a
   rw[o]at d
   exact m.gL N r M a d (.inl t)
  ·rw[y l e]at a
   rw[off l e]at d
   exact h.gL l r M a d t
 ·obtain⟨d,D⟩:=h.gH k K
  exact⟨d,((m.gH k (K.imp .inl .inl)).2).trans D⟩
 ·have I:H.n<=l:=hl
  rw[off l O];exact h.top l I
 ·obtain⟨M,Y⟩:=h.fp g W
  exact⟨M,hx _ _ Y⟩
 ·by_cases e:l=ℓ
  ·subst e
   rw[gs]at j
   rw[o]at d
   exact m.hid N r M (λe=>j (by rw[e];rfl)) d (.inl t)
  ·rw[y l e]at j
   rw[off l e]at d
   exact h.hid l r M j d t
 ·obtain⟨e1,e2⟩:=h.env l hl
  have:l≠ℓ:=λe=>U (e▸hl)
  exact⟨e1,by rw[off l this];exact e2⟩
 ·have I:H.n<=l:=hl
  rw[y l O];exact h.low l I
 ·rw[q]
  by_cases e:l=ℓ
  ·subst e
   rw[gs,ABlk.qw]at a
   rw[o]at d
   exact m.pV N r M a d
  ·rw[y l e]at a
   rw[off l e]at d
   exact m.sn r (.inr ⟨l,M,trivial,a,d⟩)
section
mutual
def AV.beq:AV->AV->Bool
 | .bool a,.bool b=>a==b
 | .int k x,.int v y=>c_ (k=v)&&c_ (x=y)
 | .str s,.str t=>c_ (s=t)
 | .ptr a b c d,.ptr a' h l o=>c_ (a=a')&&c_ (b=h)&&c_ (c=l)&&c_ (d=o)
 | .nilPtr,.nilPtr=>true
 | .slice a b c d e f,.slice a' h l o q m=>c_ (a=a')&&c_ (b=h)&&c_ (c=l)&&c_ (d=o)&&c_ (e=q)&&c_ (f=m)
 | .aw,.aw=>true
 | .own a b c,.own a' h l=>c_ (a=a')&&c_ (b=h)&&c_ (c=l)
 | .map a,.map b=>c_ (a=b)
 | .fn f a b,.fn m a' h=>c_ (f=m)&&bt.beq a a'&&bt.beq b h
 | .yield a,.yield b=>c_ (a=b)
 | .aB,.aB=>true
 | .nilIface,.nilIface=>true
 | .iface t a,.iface w a'=>c_ (t=w)&&a.beq a'
 | .agg a,.agg b=>bt.beq a b
 | .bK a,.bK b=>bt.beq a b
 | .any,.any=>true
 | .fc cs j,.fc u C=>bt.beq cs u&&c_ (j=C)
 | .addr a b,.addr a' h=>c_ (a=a')&&c_ (b=h)
 | .ab n e f,.ab D q m=>c_ (n=D)&&c_ (e=q)&&(e_ n).all λi=>bt.beq (f i) (m i)
 |_,_=>false
def bt.beq:List AV->List AV->Bool
 |[],[]=>true
 |a::as,b::E=>a.beq b&&bt.beq as E
 |_,_=>false
end
mutual
theorem AV.fH{ρ:Env}:∀(a b:AV)(v:Value),a.beq b=true->VR ρ b v->VR ρ a v
 | .fn f x y,b,v,h,d=>by
  cases b<;>simp only[AV.beq,kH,bf,bn]at h
  obtain⟨⟨rfl,m⟩,o⟩:=h
  simp only[VR]at d⊢
  obtain⟨us,vs,rfl,l,s⟩:=d
  exact⟨us,vs,rfl,bt.fH x _ _ m l,bt.fH y _ _ o s⟩
 | .iface t a,b,v,h,d=>by
  cases b<;>simp only[AV.beq,kH,bf,bn]at h
  obtain⟨rfl,m⟩:=h
  simp only[VR]at d⊢
  obtain⟨u,rfl,l⟩:=d
  exact⟨u,rfl,AV.fH a _ _ m l⟩
 | .agg as,b,v,h,d=>by
  cases b<;>simp only[AV.beq,kH]at h
  simp only[VR]at d⊢
  obtain⟨us,rfl,l⟩:=d
  exact⟨us,rfl,bt.fH as _ _ h l⟩
 | .bK as,b,v,h,d=>by
  cases b<;>simp only[AV.beq,kH]at h
  simp only[VR]at d⊢
  obtain⟨us,rfl,l⟩:=d
  exact⟨us,rfl,bt.fH as _ _ h l⟩
 | .fc cs j,b,v,h,d=>by
  cases b<;>simp only[AV.beq,kH,bf,bn]at h
  obtain⟨m,rfl⟩:=h
  simp only[VR]at d⊢
  obtain⟨b,q,vs,rfl,l,s⟩:=d
  exact⟨b,q,vs,rfl,l,bt.fH cs _ _ m s⟩
 | .ab n e f,b,v,h,d=>by
  cases b<;>simp only[AV.beq,kH,bf,bn,List.all_eq_true]at h
  obtain⟨⟨rfl,rfl⟩,m⟩:=h
  simp only[VR]at d⊢
  rcases d with d|⟨b,q,c,a,w,rfl,o,l⟩
  ·exact .inl d
  ·exact .inr ⟨b,q,c,a,w,rfl,o,λhl=>⟨(l hl).1,(l hl).2.1,λi hi=>⟨((l hl).2.2 i hi).1,bt.fH (f i) _ _ (m i (List.mem_range.2 hi)) ((l hl).2.2 i hi).2⟩⟩⟩
 | .addr _ _,b,v,h,d=>by cases b<;>simp only[AV.beq,kH,bf,bn,beq_iff_eq]at h<;>simp_all
 | .bool _,b,v,h,d=>by cases b<;>simp only[AV.beq,kH,bf,bn,beq_iff_eq]at h<;>simp_all
 | .int _ _,b,v,h,d=>by cases b<;>simp only[AV.beq,kH,bf,bn,beq_iff_eq]at h<;>simp_all
 | .str _,b,v,h,d=>by cases b<;>simp only[AV.beq,kH,bf,bn,beq_iff_eq]at h<;>simp_all
 | .ptr _ _ _ _,b,v,h,d=>by cases b<;>simp only[AV.beq,kH,bf,bn,beq_iff_eq]at h<;>simp_all
 | .nilPtr,b,v,h,d=>by cases b<;>simp only[AV.beq,kH,bf,bn,beq_iff_eq]at h<;>simp_all
 | .slice _ _ _ _ _ _,b,v,h,d=>by cases b<;>simp only[AV.beq,kH,bf,bn,beq_iff_eq]at h<;>simp_all
 | .aw,b,v,h,d=>by cases b<;>simp only[AV.beq,kH,bf,bn,beq_iff_eq]at h<;>simp_all
 | .own _ _ _,b,v,h,d=>by cases b<;>simp only[AV.beq,kH,bf,bn,beq_iff_eq]at h<;>simp_all
 | .map _,b,v,h,d=>by cases b<;>simp only[AV.beq,kH,bf,bn,beq_iff_eq]at h<;>simp_all
 | .yield _,b,v,h,d=>by cases b<;>simp only[AV.beq,kH,bf,bn,beq_iff_eq]at h<;>simp_all
 | .aB,b,v,h,d=>by cases b<;>simp only[AV.beq,kH,bf,bn,beq_iff_eq]at h<;>simp_all
 | .nilIface,b,v,h,d=>by cases b<;>simp only[AV.beq,kH,bf,bn,beq_iff_eq]at h<;>simp_all
 | .any,b,v,h,d=>by cases b<;>simp only[AV.beq,kH,bf,bn,beq_iff_eq]at h<;>simp_all
theorem bt.fH{ρ:Env}:∀(a b:List AV)(vs:List Value),bt.beq a b=true->aU ρ b vs->aU ρ a vs
 |[],[],_,_,h=>h
 |a::as,b::C,vs,h,d=>by
  simp only[bt.beq,bf]at h
  simp only[aU]at d⊢
  obtain⟨u,us,rfl,m,o⟩:=d
  exact⟨u,us,rfl,AV.fH _ _ _ h.1 m,bt.fH _ _ _ h.2 o⟩
 |[],_::_,_,h,_=>by simp[bt.beq]at h
 |_::_,[],_,h,_=>by simp[bt.beq]at h
end
section
variable {R:Type} (X:RI R) (I:ba)
def Vw(o:Oper)(ev:Operand->AV)(H:AH)(K:AV->R):R :=
 match o.op with
 | .load t a=>yf X I t H (ev a) K
 | .slice t x lo hi mx=>PH X I t (ev x) (lo.map ev) (hi.map ev) (mx.map ev) H K
 | .lookup t x i ok=>q9 X I t (ev x) (ev i) ok H K
 | .convert s d x=>match I.dI s,I.dI d with
  |some (.slice e),z .string=>PI X I e (ev x) H K
  |_,_=>X.fail
 | .call {callee:=.builtin .len,args,argTypes}=>match args.toList,argTypes.toList with
  |[x],[t]=>Pg X I t (ev x) H K
  |_,_=>X.fail
 |_=>X.fail
def eE(P:Program)(o:Oper)(ev:Operand->AV)(M:AH)(v:AV):Prop :=
 (∀c,o.op≠ .defer c)/\∀c ρ w (e:Operand->Value),(∀x,VR ρ (ev x) (e x))->Rel c ρ M w->∃u,(execOp e o).run P w= .ok (.value u) w/\VR ρ v u
inductive YN where
 |gz|reader|vK
def Vx(o:Oper):YN :=
 match o.op with
 | .load .. | .slice .. | .lookup .. => .reader
 | .convert s _ _=>match I.dI s with
  |some (.slice _)=> .reader
  |_=> .vK
 | .store .. | .mapUpdate .. | .insert .. | .mapEntry .. | .entryStore .. | .panic _=> .gz
 | .call c=>match c.callee with
  | .builtin .len=> .reader
  | .builtin .min| .builtin .max=> .vK
  |_=> .gz
 |_=> .vK
def sD(o:Oper):Bool :=
 match o.op with
 | .alloc _| .box .. | .buildSlice .. | .makeMap .. | .makeSlice .. | .convert .. =>true
 |_=>false
def KR{α:Type}(n:Nat)(K:Nat->α): α:=match n with|0=>K 0|m+1=>K (m+1)
theorem HX{α:Type}(n:Nat)(K:Nat->α):KR n K=K n:=by cases n<;>rfl
structure PM where
 n:Nat
 l:List Nat
def PM.at(p:PM)(j:Nat):Nat:=p.l.getD (p.n-1-j) 0
def PM.pre(p:PM)(i j:Nat):Bool:=(p.at j).testBit i
def rn(p:PM)(a:List Edge):Nat:=a.foldl (λs e=>bif Region.binds .any e then s ||| 2^e.on ||| p.at e.on else s) 0
def PM.of:List Oper->PM->PM
 |[],p=>p
 |o::os,p=>KR (rn p o.after.toList) λm=>PM.of os {n:=p.n+1,l:=m::p.l}
def D8(o:Oper):List Tmp:=o.op.operands.toList.filterMap (λ| .tmp t=>z t|_=>n_)
def sE:List Nat->Nat->Bool
 |[],_=>false
 |a::as,x=>bif f_ a x then true else sE as x
theorem vL:∀{l:List Nat}{x:Nat},sE l x=true↔x∈l
 |[],x=>by simp[sE]
 |a::as,x=>by
  simp only[sE]
  cases h:f_ a x with
  |true=>have:=dE h;subst this;simp
  |false=>
   have b :¬ x=a:=λe=>by subst e;rw[ni]at h;cases h
   simp only[cond_false,List.mem_cons,b,false_or]
   exact vL
def St.lk(G:Nat)(s:St)(o:Oper):Operand->AV
 | .tmp i=>bif sE (D8 o) i then cR s.t i else .any
 |x=>s.ev G x
def gA(ops:Array Oper)(o:Oper):List Tmp :=
 o.dst.toList++D8 o++(match o.guard with|some (j,_)=>(match(ops[j]?).bind (·.dst)with|some d=>[d]|none=>[])|none=>[])
def gB(o:Oper):Bool:=match Vx I o with| .gz=>true|_=>false
def gP(ops:Array Oper)(p:PM):Bool :=
  (ops.toList.zipIdx.all λx => x.1.after.toList.all λe => !Region.binds .any e || k_ e.on x.2) &&
  (ops.toList.zipIdx.all λx => ops.toList.zipIdx.all λy =>
    !Nat.blt y.2 x.2 ||
      ((!(gB I x.1 && gB I y.1) || p.pre y.2 x.2) &&
       ((match y.1.dst with|some d => !(gA ops x.1).contains d|none => true) || p.pre y.2 x.2) &&
       ((match x.1.dst with|some d => !(gA ops y.1).contains d|none => true) || p.pre y.2 x.2)))
inductive Out where
 |skip
 |pure (a:AV)
 |fresh (a:AV) (b:ABlk)
 |read (a:AV)
 |gz (a:AV) (H:AH)
structure jI where
 ix:Nat
 o:Oper
 s:St
 out:Out
def jI.next(n0:Nat)(e:jI):St :=
 match e.out with
 | .skip=>e.s.put e.o.dst (.bK [])
 | .pure v=>e.s.put e.o.dst v
 | .read v=>e.s.put e.o.dst v
 | .fresh v b=>(e.s.heap (e.s.H.set (n0+e.ix) b)).put e.o.dst v
 | .gz v H=>(e.s.heap H).put e.o.dst v
def gQ(p:PM)(n0 i:Nat):List Nat->AH->AH
 |[],H=>H
 |a::as,H=>bif p.pre a i then gQ p n0 i as H else(gQ p n0 i as H).set (n0+a) .dead
def ff(p:PM)(n0 i:Nat)(H:AH):List Nat->AH->AH
 |[],H'=>H'
 |a::as,H'=>bif p.pre a i then ff p n0 i H as H' else(ff p n0 i H as H').set (n0+a) (H.get (n0+a))
def po(p:PM)(al:List Nat)(n0 i:Nat)(o:Oper)(ev:Operand->AV)(v:AV)(K:R):List jI->R
 |[]=>K
 |e::es=>match e.out with
  | .gz _ _=>bif p.pre e.ix i then po p al n0 i o ev v K es
   else Vw X I o ev (gQ p n0 i al e.s.H) λa=>X.ak (v.beq a) (po p al n0 i o ev v K es)
  |_=>po p al n0 i o ev v K es
def pp(p:PM)(al:List Nat)(n0 h:Nat)(H:AH)(K:R):List jI->R
 |[]=>K
 |e::es=>match e.out with
  | .read v=>bif p.pre e.ix h then pp p al n0 h H K es
   else Vw X I e.o (e.s.lk I.G e.o) (gQ p n0 e.ix al H) λa=>X.ak (v.beq a) (pp p al n0 h H K es)
  |_=>pp p al n0 h H K es
def Gi(b:iQ R)(round:gZ R)(p:PM)(al:List Nat)(n0 N i:Nat)(tr:List jI)(o:Oper)(s:St)(a:jI->R):R :=
 match Vx I o with
 | .vK=>DW X I o (s.lk I.G o) (.blank N) λv H'=>
   bif f_ H'.n N then a {ix:=i,o,s,out:=.pure v}
   else bif f_ H'.n (N+1)&&sD o then a {ix:=i,o,s,out:=.fresh (v.bD (kw N (n0+i))) ((H'.get N).bD (kw N (n0+i)))}
   else X.fail
 | .reader=>Vw X I o (s.lk I.G o) (gQ p n0 i al s.H) λv=>po X I p al n0 i o (s.lk I.G o) v (a {ix:=i,o,s,out:=.read v}) tr
 | .gz=>Pq X I b round o (s.lk I.G o) (gQ p n0 i al s.H) (λv H'=>bif x_ H'.n N then pp X I p al n0 i (ff p n0 i s.H al H') (a {ix:=i,o,s,out:=.gz v (ff p n0 i s.H al H')}) tr else X.fail) (λ_ _=>X.fail)
def vM(a:iQ R)(round:gZ R)(ops:Array Oper)(p:PM)(al:List Nat)(n0 N:Nat)(K:St->R):List Oper->Nat->List jI->St->R
 |[],_,_,s=>K s
 |o::rest,i,tr,s=>
  match o.guard with
  |none=>Gi X I a round p al n0 N i tr o s λe=>vM a round ops p al n0 N K rest (i+1) (e::tr) (e.next n0)
  |some (j,want)=>
   match(ops[j]?).bind (·.dst)with
   |none=>X.fail
   |some d=>
    match cR s.t d with
    | .bool b=>
     let run (s:St):=Gi X I a round p al n0 N i tr o s λe=>vM a round ops p al n0 N K rest (i+1) (e::tr) (e.next n0)
     let skip (s:St):=vM a round ops p al n0 N K rest (i+1) ({ix:=i,o,s,out:=.skip}::tr) (jI.next n0 {ix:=i,o,s,out:=.skip})
     X.cond b (λ_=>(bif want then run else skip) (s.put (z d) (.bool true))) (λ_=>(bif want then skip else run) (s.put (z d) (.bool false)))
    | .bK []=>vM a round ops p al n0 N K rest (i+1) ({ix:=i,o,s,out:=.skip}::tr) (jI.next n0 {ix:=i,o,s,out:=.skip})
    |_=>X.fail
def lO:Nat->List Oper->List Nat
 |_,[]=>[]
 |i,o::os=>bif (match Vx I o with| .vK=>sD o|_=>false)then i::lO (i+1) os else lO (i+1) os
def drawn(N:Nat):ot R:=λa round ops k s=>
 bif gP I ops (PM.of ops.toList {n:=0,l:=[]})&&x_ (s.H.n+ops.size) N then
  vM X I a round ops (PM.of ops.toList {n:=0,l:=[]}) (lO I 0 ops.toList) s.H.n N k.n ops.toList 0 [] (s.heap (s.H.up (s.H.n+ops.size)))
 else X.fail
end
section
variable {R:Type} {X:RI R} {sem:R->Prop} (hX:X.Ok sem) {I:ba} {P:Program} (hI:I.Ok P)
include hX hI in
theorem D9{o:Oper}{ev:Operand->AV}{H:AH}{K:AV->R}(h:sem (Vw X I o ev H K)):∃v,sem (K v)/\eE P o ev H v:=by
 unfold Vw at h
 split at h
 ·rename_i t a f
  obtain⟨b,j,k⟩:=vf hX hI h
  refine⟨b,j,by simp[f],λc ρ w e g l=>?_⟩
  obtain⟨v,m,n⟩:=k c ρ w (e a) (g a) l
  exact⟨v,by simp[execOp,f,m],n⟩
 ·rename_i t x lo hi mx f
  obtain⟨b,j,k⟩:=yi hX hI H h
  refine⟨b,j,by simp[f],λc ρ w e g l=>?_⟩
  obtain⟨u,m,n⟩:=k c ρ w (e x) (lo.map e) (hi.map e) (mx.map e) (g x) (kW g lo) (kW g hi) (kW g mx) l
  exact⟨u,by simp[execOp,f,m],n⟩
 ·rename_i t x i ok f
  obtain⟨b,j,k⟩:=tH hX hI h
  refine⟨b,j,by simp[f],λc ρ w e g l=>?_⟩
  obtain⟨u,m,n⟩:=k c ρ w (e x) (e i) (g x) (g i) l
  exact⟨u,by simp[execOp,f,m],n⟩
 ·rename_i s d x f
  split at h
  ·rename_i e q r
   obtain⟨b,j,k⟩:=yj hX hI q r h
   refine⟨b,j,by simp[f],λc ρ w e g l=>?_⟩
   obtain⟨u,m,n⟩:=k c ρ w (e x) (g x) l
   exact⟨u,by simp[execOp,f,m],n⟩
  ·exact zS
 ·rename_i args y f
  split at h
  ·rename_i x t hx ht
   have ha:args= #[x]:=by apply t_;simpa using hx
   have p:y= #[t]:=by apply t_;simpa using ht
   subst ha p
   obtain⟨b,j,k⟩:=Ga hX hI h #[t] rfl o.type
   refine⟨b,j,by simp[f],λc ρ w e g l=>?_⟩
   obtain⟨u,m,n⟩:=k c ρ w (e x) (g x) l
   exact⟨u,by simp[execOp,f,resolve,invoke,builtin,m],n⟩
  ·exact zS
 ·exact zS
end
end
section
def yw(P:Program)(o:Oper)(ev:Operand->AV)(N:Nat)(v:AV)(H':AH):Prop :=
 (∀c,o.op≠ .defer c)/\∀c ρ w (e:Operand->Value),(∀x,VR ρ (ev x) (e x))->Rel c ρ (.blank N) w->iO P (execOp e o) c ρ w v H'
def pq(ops:Array Oper)(e:jI):Prop :=
 e.o.guard=n_∨∃j a d,e.o.guard=z (j,a)/\(ops[j]?).bind (·.dst)=z d/\cR e.s.t d= .bool a
def KT(ops:Array Oper)(e:jI):Prop :=
 ∃j a d,e.o.guard=z (j,a)/\(ops[j]?).bind (·.dst)=z d/\(cR e.s.t d= .bool (!a)∨cR e.s.t d= .bK [])
structure jh (s s':St):Prop where
 nt:s'.nt=s.nt
 H:s'.H=s.H
 df:s'.df=s.df
 t:∀a,cR s'.t a=cR s.t a
theorem jh.refl(s:St):jh s s:=⟨rfl,rfl,rfl,λ_=>rfl⟩
theorem jh.lit{s:St}{d:Nat}{b:Bool}(h:cR s.t d= .bool b):jh s (s.put (z d) (.bool b)):=by
 simp only[St.put]
 cases k_ d s.nt with
 |true=>
  refine⟨rfl,rfl,rfl,λu=>?_⟩
  simp only[cond_true]
  rw[oo]
  by_cases hu:u=d
  ·subst hu;rw[if_pos A,h]
  ·rw[if_neg hu]
 |false=>exact jh.refl s
section
variable (P:Program) (I:ba) (ops:Array Oper) (p:PM) (al:List Nat) (n0 N:Nat) (s0:St)
def KU(e:jI):Prop :=
 ops[e.ix]? =z e.o/\
 match e.out with
 | .skip=>KT ops e
 | .pure v=>pq ops e/\gB I e.o=false/\∃H',H'.n=N/\yw P e.o (e.s.lk I.G e.o) N v H'
 | .fresh v b=>pq ops e/\gB I e.o=false/\e.ix∈al/\∃a H',H'.n=N+1/\yw P e.o (e.s.lk I.G e.o) N a H'/\v=a.bD (kw N (n0+e.ix))/\b=(H'.get N).bD (kw N (n0+e.ix))
 | .read v=>pq ops e/\gB I e.o=false/\eE P e.o (e.s.lk I.G e.o) (gQ p n0 e.ix al e.s.H) v
 | .gz v H2=>pq ops e/\gB I e.o=true/\∃H',rj P I e.o (e.s.lk I.G e.o) (gQ p n0 e.ix al e.s.H) (.ret v H')/\H2=ff p n0 e.ix e.s.H al H'/\H'.n<=N
def fI(E:Nat->jI):Nat->St
 |0=>s0
 |j+1=>(E j).next n0
structure iI (i:Nat) (E:Nat->jI) (s:St):Prop where
 ix:∀a,a<i->(E a).ix=a
 ok:∀a,a<i->KU P I ops p al n0 N (E a)
 same:∀a,a<i->jh (fI n0 s0 E a) (E a).s
 last:s=fI n0 s0 E i
 back:∀a h c b Hh,a<i->h<a->(E a).out= .read c->(E h).out= .gz b Hh->p.pre h a=false->eE P (E a).o ((E a).s.lk I.G (E a).o) (gQ p n0 a al (E h).s.H) c
 R1:∀a h c b Hh,h<i->a<h->(E a).out= .read c->(E h).out= .gz b Hh->p.pre a h=false->eE P (E a).o ((E a).s.lk I.G (E a).o) (gQ p n0 a al Hh) c
end
section
variable {P:Program} {I:ba} {ops:Array Oper} {p:PM} {al:List Nat} {n0 N:Nat} {s0:St}
theorem vN{E a:Nat->jI}{i:Nat}(h:∀j,j<i->a j=E j):fI n0 s0 a i=fI n0 s0 E i:=by
 cases i with
 |zero=>rfl
 |succ i=>simp only[fI];rw[h i (Nat.lt_succ_self i)]
theorem iI.snoc{i:Nat}{E:Nat->jI}{s:St}(h:iI P I ops p al n0 N s0 i E s)(e:jI)(hi:e.ix=i)(y:KU P I ops p al n0 N e)(C:jh s e.s)
  (D:∀h v u b,h<i->e.out= .read v->(E h).out= .gz u b->p.pre h i=false->eE P e.o (e.s.lk I.G e.o) (gQ p n0 i al (E h).s.H) v)
  (F:∀j v u b,j<i->(E j).out= .read v->e.out= .gz u b->p.pre j i=false->eE P (E j).o ((E j).s.lk I.G (E j).o) (gQ p n0 j al b) v):
  ∃c,(∀j,j<i->c j=E j)/\c i=e/\iI P I ops p al n0 N s0 (i+1) c (e.next n0):=by
 obtain⟨c,t⟩:∃c:Nat->jI,c=λj=>if j=i then e else E j:=⟨_,rfl⟩
 have a:c i=e:=by rw[t];simp
 have off:∀j,j<i->c j=E j:=λj m=>by rw[t];have :¬ j=i:=O;simp[this]
 refine⟨c,off,a,λj m=>?_,λj m=>?_,λj m=>?_,?_,λj k v u b m q d f w=>?_,λj k v u b q m d f w=>?_⟩
 ·by_cases l:j=i
  ·subst l;rw[a];exact hi
  ·rw[off j O];exact h.ix j O
 ·by_cases l:j=i
  ·subst l;rw[a];exact y
  ·rw[off j O];exact h.ok j O
 ·by_cases l:j=i
  ·subst l
   rw[a,vN (λk q=>off k q),<-h.last]
   exact C
  ·rw[off j O,vN (λk q=>off k O)]
   exact h.same j O
 ·simp only[fI,a]
 ·by_cases l:j=i
  ·subst l
   rw[a]at d⊢
   rw[off k q]at f⊢
   exact D k v u b q d f w
  ·rw[off j O]at d⊢
   rw[off k O]at f⊢
   exact h.back j k v u b O q d f w
 ·by_cases l:k=i
  ·subst l
   rw[a]at f
   rw[off j m]at d⊢
   exact F j v u b m d f w
  ·rw[off j O]at d⊢
   rw[off k O]at f
   exact h.R1 j k v u b O m d f w
end
section
variable {R:Type} {X:RI R} {sem:R->Prop} (hX:X.Ok sem) {I:ba} {P:Program} (hI:I.Ok P)
theorem eE.beq{P:Program}{o:Oper}{ev:Operand->AV}{M:AH}{v a:AV}(h:eE P o ev M a)(b:v.beq a=true):eE P o ev M v :=
 ⟨h.1,λc ρ w e d f=>by
  obtain⟨u,i,j⟩:=h.2 c ρ w e d f
  exact⟨u,i,AV.fH _ _ _ b j⟩⟩
include hX hI in
theorem nC{p:PM}{al:List Nat}{n0 i:Nat}{o:Oper}{ev:Operand->AV}{v:AV}{K:R}:∀{m:List jI},sem (po X I p al n0 i o ev v K m)->
  sem K/\∀e∈m,∀u n,e.out= .gz u n->p.pre e.ix i=false->eE P o ev (gQ p n0 i al e.s.H) v
 |[],h=>⟨h,λe q=>by cases q⟩
 |e::m,h=>by
  simp only[po]at h
  split at h
  ·rename_i u n f
   cases hp:p.pre e.ix i with
   |true=>
    rw[hp]at h
    obtain⟨j,g⟩:=nC h
    refine⟨j,λk a l d c b=>?_⟩
    rcases List.mem_cons.1 a with rfl|a
    ·rw[hp]at b;cases b
    ·exact g k a l d c b
   |false=>
    rw[hp]at h
    obtain⟨y,j,g⟩:=D9 hX hI h
    obtain⟨r,t⟩:=hX.ak _ _ j
    have g:=g.beq r
    obtain⟨w,x⟩:=nC t
    refine⟨w,λk a l d c b=>?_⟩
    rcases List.mem_cons.1 a with rfl|a
    ·exact g
    ·exact x k a l d c b
  ·rename_i f
   obtain⟨j,g⟩:=nC h
   refine⟨j,λk a l d c b=>?_⟩
   rcases List.mem_cons.1 a with rfl|a
   ·exact absurd c (f _ _)
   ·exact g k a l d c b
include hX hI in
theorem nD{p:PM}{al:List Nat}{n0 k:Nat}{H:AH}{K:R}:∀{l:List jI},sem (pp X I p al n0 k H K l)->
  sem K/\∀e∈l,∀v,e.out= .read v->p.pre e.ix k=false->eE P e.o (e.s.lk I.G e.o) (gQ p n0 e.ix al H) v
 |[],h=>⟨h,λe m=>by cases m⟩
 |e::l,h=>by
  simp only[pp]at h
  split at h
  ·rename_i v d
   cases hp:p.pre e.ix k with
   |true=>
    rw[hp]at h
    obtain⟨i,f⟩:=nD h
    refine⟨i,λj a g b c=>?_⟩
    rcases List.mem_cons.1 a with rfl|a
    ·rw[hp]at c;cases c
    ·exact f j a g b c
   |false=>
    rw[hp]at h
    obtain⟨g,i,f⟩:=D9 hX hI h
    obtain⟨n,q⟩:=hX.ak _ _ i
    have f:=f.beq n
    obtain⟨r,t⟩:=nD q
    refine⟨r,λj a g b c=>?_⟩
    rcases List.mem_cons.1 a with rfl|a
    ·rw[d]at b;cases b;exact f
    ·exact t j a g b c
  ·rename_i d
   obtain⟨i,f⟩:=nD h
   refine⟨i,λj a g b c=>?_⟩
   rcases List.mem_cons.1 a with rfl|a
   ·exact absurd b (d _)
   ·exact f j a g b c
def Gj(I:ba)(ops:Array Oper)(al:List Nat):Prop := ∀i o,ops[i]? =z o->(∃u,Vx I o=u/\u= .vK)->sD o=true->i∈al
include hX hI in
theorem Gk{a:iQ R}(x:gN P I sem a){round:gZ R}(q:hZ P I sem round){ops:Array Oper}{p:PM}{al:List Nat}(U:Gj I ops al){n0 N:Nat}{s0:St}{K:St->R}:
  ∀(l:List Oper)(i:Nat)(s:St)(E:Nat->jI),ops.toList.drop i=l->i<=ops.size->iI P I ops p al n0 N s0 i E s->sem (vM X I a round ops p al n0 N K l i (((e_ i).map E).reverse) s)->
  ∃sf m,sem (K sf)/\iI P I ops p al n0 N s0 ops.size m sf
 |[],i,s,E,hl,ad,ht,h=>by
  simp only[vM]at h
  have hi:ops.size<=i:=by
   have:=congrArg List.length hl
   simp at this;omega
  have:i=ops.size:=O
  subst this
  exact⟨s,E,h,ht⟩
 |o::rest,i,s,E,hl,ad,ht,h=>by
  have L:ops[i]? =z o:=by
   have:(ops.toList.drop i)[0]? =z o:=by rw[hl];rfl
   rw[List.getElem?_drop]at this
   simpa using this
  have M:ops.toList.drop (i+1)=rest:=by rw[<-List.drop_drop,hl];rfl
  have mem:∀j,j<i->E j∈((e_ i).map E).reverse:=λj hj=>by simp;exact⟨j,hj,rfl⟩
  have next:∀(e:jI)(m:Nat->jI),(∀j,j<i->m j=E j)->m i=e->e::((e_ i).map E).reverse=((e_ (i+1)).map m).reverse:=λe m c D=>by
   rw[List.range_succ,List.map_append,List.reverse_append]
   simp only[List.map_cons,List.map_nil,List.reverse_cons,List.reverse_nil,List.nil_append,List.singleton_append,D]
   congr 2
   exact List.map_congr_left λj hj=>(c j (List.mem_range.1 hj)).symm
  have go:∀e:jI,e.ix=i->KU P I ops p al n0 N e->jh s e.s->
    (∀h v u Q,h<i->e.out= .read v->(E h).out= .gz u Q->p.pre h i=false->eE P e.o (e.s.lk I.G e.o) (gQ p n0 i al (E h).s.H) v)->
    (∀j v u Q,j<i->(E j).out= .read v->e.out= .gz u Q->p.pre j i=false->eE P (E j).o ((E j).s.lk I.G (E j).o) (gQ p n0 j al Q) v)->
    sem (vM X I a round ops p al n0 N K rest (i+1) (e::((e_ i).map E).reverse) (e.next n0))->∃sf m,sem (K sf)/\iI P I ops p al n0 N s0 ops.size m sf:=by
   intro e c D V W h5 h6
   obtain⟨m,k1,k2,k3⟩:=ht.snoc e c D V W h5
   rw[next e m k1 k2]at h6
   exact Gk x q U rest (i+1) _ m M (by have:=(Array.getElem?_eq_some_iff.1 L).1;omega) k3 h6
  have y:∀k:St,jh s k->(∀out,pq ops {ix:=i,o,s:=k,out})->
    sem (Gi X I a round p al n0 N i (((e_ i).map E).reverse) o k λe=>vM X I a round ops p al n0 N K rest (i+1) (e::((e_ i).map E).reverse) (e.next n0))->
    ∃sf m,sem (K sf)/\iI P I ops p al n0 N s0 ops.size m sf:=by
   intro k r T h
   unfold Gi at h
   split at h
   ·rename_i f
    have F:gB I o=false:=by simp[gB,f]
    have Y:=vC hX h
    obtain⟨v,H',c,D⟩:=Gd hX hI h
    cases hn:f_ H'.n N with
    |true=>
     rw[hn]at c
     exact go {ix:=i,o,s:=k,out:=.pure v} rfl ⟨L,T _,F,H',dE hn,Y,D⟩ r (λ_ _ _ _ _ e=>zC) (λ_ _ _ _ _ _ e=>zC) c
    |false=>
     rw[hn]at c
     cases C:f_ H'.n (N+1)&&sD o with
     |true=>
      simp only[C,cond_true,cond_false]at c
      simp only[bf]at C
      exact go {ix:=i,o,s:=k,out:=.fresh (v.bD (kw N (n0+i))) ((H'.get N).bD (kw N (n0+i)))} rfl ⟨L,T _,F,U i o L ⟨_,f,rfl⟩ C.2,v,H',dE C.1,⟨Y,D⟩,rfl,rfl⟩ r (λ_ _ _ _ _ e=>zC) (λ_ _ _ _ _ _ e=>zC) c
     |false=>
      simp only[C,cond_false]at c
      exact absurd c hX.fail
   ·rename_i f
    have F:gB I o=false:=by simp[gB,f]
    obtain⟨v,c,D⟩:=D9 hX hI h
    obtain⟨V,W⟩:=nC hX hI (P:=P) c
    refine go {ix:=i,o,s:=k,out:=.read v} rfl ⟨L,T _,F,D⟩ r (λF v' u Q w e1 e2 hp=>?_) (λ_ _ _ _ _ _ e=>zC) V
    cases e1
    exact W _ (mem F w) u Q e2 (by rw[ht.ix F w];exact hp)
   ·rename_i f
    have F:gB I o=true:=by simp[gB,f]
    obtain⟨out,c,D⟩:=D3 hX hI x q h
    cases out with
    |qt v H'=>exact absurd c hX.fail
    |ret v H'=>
     simp only[CO.sem]at c
     cases hle:x_ H'.n N with
     |false=>rw[hle]at c;exact absurd c hX.fail
     |true=>
     rw[hle]at c
     obtain⟨V,W⟩:=nD hX hI (P:=P) c
     refine go {ix:=i,o,s:=k,out:=.gz v (ff p n0 i k.H al H')} rfl ⟨L,T _,F,H',D,rfl,jX hle⟩ r (λ_ _ _ _ _ e=>zC) (λj v' u Q w e1 e2 hp=>?_) V
     cases e2
     have:=W _ (mem j w) v' e1 (by rw[ht.ix j w];exact hp)
     rw[ht.ix j w]at this
     exact this
  have skip:∀k:St,jh s k->KT ops {ix:=i,o,s:=k,out:=.skip}->sem (vM X I a round ops p al n0 N K rest (i+1) ({ix:=i,o,s:=k,out:=.skip}::((e_ i).map E).reverse) (jI.next n0 {ix:=i,o,s:=k,out:=.skip}))->
    ∃sf m,sem (K sf)/\iI P I ops p al n0 N s0 ops.size m sf:=λk r T h=>
   go {ix:=i,o,s:=k,out:=.skip} rfl ⟨L,T⟩ r (λ_ _ _ _ _ e=>zC) (λ_ _ _ _ _ _ e=>zC) h
  simp only[vM]at h
  split at h
  ·rename_i S
   exact y s (jh.refl s) (λout=> .inl S) h
  ·rename_i j Z S
   split at h
   ·exact zS
   ·rename_i d hd
    split at h
    ·rename_i b hb
     have hc:=hX.cond _ _ _ h
     have g:jh s (s.put (z d) (.bool b)):=jh.lit hb
     have J:cR (s.put (z d) (.bool b)).t d= .bool b:=(g.t d).trans hb
     cases b<;>cases Z<;>simp only[if_true,kH,if_false,cond_true,cond_false]at hc
     ·exact y _ g (λout=> .inr ⟨j,_,d,S,hd,J⟩) hc
     ·exact skip _ g ⟨j,_,d,S,hd,.inl J⟩ hc
     ·exact skip _ g ⟨j,_,d,S,hd,.inl J⟩ hc
     ·exact y _ g (λout=> .inr ⟨j,_,d,S,hd,J⟩) hc
    ·rename_i hb
     exact skip s (jh.refl s) ⟨j,_,d,S,hd,.inr hb⟩ h
    ·exact zS
end
end
section
theorem PM.Gl{p:PM}(hl:p.l.length=p.n)(m:Nat){j:Nat}(a:j<p.n):({n:=p.n+1,l:=m::p.l}:PM).at j=p.at j:=by
 simp only[PM.at]
 have:p.n+1-1-j=(p.n-1-j)+1:=O
 rw[this]
 simp
theorem PM.Tj(p:PM)(m:Nat):({n:=p.n+1,l:=m::p.l}:PM).at p.n=m:=by
 simp[PM.at]
theorem PM.Gm:∀(os:List Oper)(p:PM),p.l.length=p.n->(PM.of os p).l.length=(PM.of os p).n/\(PM.of os p).n=p.n+os.length/\(∀j,j<p.n->(PM.of os p).at j=p.at j)/\
  ∀t o,os[t]? =z o->∃q:PM,(∀i,i<p.n+t->q.at i=(PM.of os p).at i)/\(PM.of os p).at (p.n+t)=rn q o.after.toList
 |[],p,h=>⟨h,rfl,λ_ _=>rfl,λt o e=>by simp at e⟩
 |o::os,p,h=>by
  simp only[PM.of,HX]
  have b:=PM.Gm os {n:=p.n+1,l:=rn p o.after.toList::p.l} (by simp[h])
  obtain⟨c,d,a,f⟩:=b
  refine⟨c,by rw[d];simp;omega,λj m=>?_,λt s e=>?_⟩
  ·rw[a j zI]
   exact PM.Gl h _ m
  ·cases t with
   |zero=>
    simp only[List.getElem?_cons_zero,fE]at e
    subst e
    refine⟨p,λi hi=>?_,?_⟩
    ·rw[a i zI]
     exact(PM.Gl h _ O).symm
    ·rw[a (p.n+0) zB]
     exact PM.Tj p _
   |succ t=>
    simp only[List.getElem?_cons_succ]at e
    obtain⟨q,k1,k2⟩:=f t s e
    have u:p.n+(t+1)=p.n+1+t:=O
    rw[u]
    exact⟨q,k1,k2⟩
theorem z7{p:PM}{i:Nat}:∀{a:List Edge},(rn p a).testBit i=true->∃e∈a,Region.binds .any e=true/\(i=e.on∨(p.at e.on).testBit i=true):=by
 intro a
 have key:∀(a:List Edge)(s:Nat),(a.foldl (λs e=>bif Region.binds .any e then s ||| 2^e.on ||| p.at e.on else s) s).testBit i=true->s.testBit i=true∨∃e∈a,Region.binds .any e=true/\(i=e.on∨(p.at e.on).testBit i=true):=by
  intro a
  induction a with
  |nil=>intro s h;exact .inl h
  |cons e a d=>
   intro s h
   simp only[List.foldl_cons]at h
   rcases d _ h with h1|⟨f,c,g⟩
   ·cases b:Region.binds .any e with
    |false=>rw[b]at h1;exact .inl h1
    |true=>
     rw[b]at h1
     simp only[cond_true,Nat.testBit_or,Bool.or_eq_true]at h1
     rcases h1 with(h1|h1)|h1
     ·exact .inl h1
     ·rw[Nat.testBit_two_pow]at h1
      exact .inr ⟨e,i_,b,.inl (by have:=pT h1;exact this.symm)⟩
     ·exact .inr ⟨e,i_,b,.inr h1⟩
   ·exact .inr ⟨f,d_ _ c,g⟩
 intro h
 rcases key a 0 h with h|h
 ·simp at h
 ·exact h
def bz(ops:Array Oper):PM:=PM.of ops.toList {n:=0,l:=[]}
section
variable {I:ba} {ops:Array Oper} (hplan:gP I ops (bz ops)=true)
include hplan
theorem iZ{j:Nat}{o:Oper}(b:ops[j]? =z o){e:Edge}(c:e∈o.after)(d:Region.binds .any e=true):e.on<j:=by
 simp only[gP,bf]at hplan
 have f:=List.all_eq_true.1 hplan.1 (o,j) (List.mem_zipIdx_iff_getElem?.2 (by simpa using b))
 have a:=List.all_eq_true.1 f e (by simpa using c)
 simp only[d,l_,m_,o_]at a
 exact a
theorem BD{i j:Nat}(d:j<ops.size)(h:(bz ops).pre i j=true):∃o e,ops[j]? =z o/\e∈o.after/\Region.binds .any e=true/\(i=e.on∨(bz ops).pre i e.on=true):=by
 have b:ops[j]? =z ops[j]:=b_ d
 obtain⟨_,_,_,f⟩:=PM.Gm ops.toList {n:=0,l:=[]} rfl
 obtain⟨q,k1,k2⟩:=f j ops[j] zB
 simp only[Nat.zero_add]at k1 k2
 unfold PM.pre bz at h
 rw[k2]at h
 obtain⟨e,g,c,k⟩:=z7 h
 have a:e∈ops[j].after:=by simpa using g
 refine⟨ops[j],e,b,a,c,k.imp id λm=>?_⟩
 unfold PM.pre bz
 rw[<-k1 e.on (iZ hplan b a c)]
 exact m
theorem uP:∀{j i:Nat},j<ops.size->(bz ops).pre i j=true->i<j:=by
 intro j
 induction j using v_ with
 |_ j c=>
  intro i d h
  obtain⟨o,e,f,g,k,b⟩:=BD hplan d h
  have a:=iZ hplan f g k
  rcases b with rfl|b
  ·exact a
  ·exact Nat.lt_trans (c e.on a O b) a
theorem mD{x y:Nat}{c e:Oper}(hx:ops[x]? =z c)(k:ops[y]? =z e)(f:y<x):
  ((gB I c=true/\gB I e=true)∨(∃d,e.dst=z d/\d∈gA ops c)∨(∃d,c.dst=z d/\d∈gA ops e))->(bz ops).pre y x=true:=by
 simp only[gP,bf]at hplan
 have l:=List.all_eq_true.1 hplan.2 (c,x) (List.mem_zipIdx_iff_getElem?.2 (by simpa using hx))
 have g:=List.all_eq_true.1 l (e,y) (List.mem_zipIdx_iff_getElem?.2 (by simpa using k))
 have m:k_ y x=true:=by rw[o_];exact f
 simp only[m,l_,m_,bf]at g
 obtain⟨⟨h,i⟩,j⟩:=g
 rintro(⟨a,b⟩|⟨d,a,b⟩|⟨d,a,b⟩)
 ·rw[a,b]at h;simpa using h
 ·rw[a]at i
  have:(gA ops c).contains d=true:=by simpa using b
  simpa only[this,l_,m_]using i
 ·rw[a]at j
  have:(gA ops e).contains d=true:=by simpa using b
  simpa only[this,l_,m_]using j
theorem j3{listed:Nat->Prop}(n:∀j o,ops[j]? =z o->listed j->∀e∈o.after,Region.binds .any e=true->listed e.on):
  ∀{j:Nat}{o:Oper},ops[j]? =z o->(∀e∈o.after,Region.binds .any e=true->listed e.on)->∀i,(bz ops).pre i j=true->listed i:=by
 intro j
 induction j using v_ with
 |_ j p=>
  intro o f a i h
  have q:=(Array.getElem?_eq_some_iff.1 f).1
  obtain⟨r,e,b,l,m,g⟩:=BD hplan q h
  rw[f]at b
  cases b
  have k:=iZ hplan f l m
  have c:=a e l m
  rcases g with rfl|g
  ·exact c
  ·have d:ops[e.on]? =z ops[e.on]:=b_ O
   exact p e.on k d (n _ _ d c) i g
end
def Hid(p:PM)(n0 i:Nat)(al:List Nat)(l:Nat):Prop := ∃a∈al,p.pre a i=false/\l=n0+a
theorem rp{p:PM}{n0 i:Nat}{H:AH}:∀{al:List Nat},(gQ p n0 i al H).n=H.n
 |[]=>rfl
 |a::as=>by
  simp only[gQ]
  cases p.pre a i with
  |true=>exact rp
  |false=>exact rp
theorem jJ{p:PM}{n0 i:Nat}{H:AH}:∀{al:List Nat}(l:Nat),(Hid p n0 i al l->(gQ p n0 i al H).get l= .dead)/\(¬ Hid p n0 i al l->(gQ p n0 i al H).get l=H.get l)
 |[],l=>⟨λh=>(by obtain⟨_,h,_⟩:=h;cases h),λ_=>rfl⟩
 |a::as,l=>by
  have e:=jJ (p:=p) (n0:=n0) (i:=i) (H:=H) (al:=as) l
  simp only[gQ]
  cases hp:p.pre a i with
  |true=>
   simp only[cond_true]
   have:Hid p n0 i (a::as) l↔Hid p n0 i as l:=by
    constructor
    ·rintro⟨b,c,h1,d⟩
     rcases List.mem_cons.1 c with rfl|c
     ·rw[hp]at h1;cases h1
     ·exact⟨b,c,h1,d⟩
    ·rintro⟨b,c,h⟩
     exact⟨b,d_ _ c,h⟩
   rw[this]
   exact e
  |false=>
   simp only[cond_false,A_]
   by_cases hl:l=n0+a
   ·rw[if_pos hl]
    exact⟨λ_=>rfl,λh=>absurd ⟨a,i_,hp,hl⟩ h⟩
   ·rw[if_neg hl]
    have:Hid p n0 i (a::as) l↔Hid p n0 i as l:=by
     constructor
     ·rintro⟨b,c,h1,d⟩
      rcases List.mem_cons.1 c with rfl|c
      ·exact absurd d hl
      ·exact⟨b,c,h1,d⟩
     ·rintro⟨b,c,h⟩
      exact⟨b,d_ _ c,h⟩
    rw[this]
    exact e
theorem iS{p:PM}{n0 i:Nat}{H H':AH}:∀{al:List Nat},(ff p n0 i H al H').n=H'.n
 |[]=>rfl
 |a::as=>by
  simp only[ff]
  cases p.pre a i with
  |true=>exact iS
  |false=>exact iS
theorem ck{p:PM}{n0 i:Nat}{H H':AH}:∀{al:List Nat}(l:Nat),(Hid p n0 i al l->(ff p n0 i H al H').get l=H.get l)/\(¬ Hid p n0 i al l->(ff p n0 i H al H').get l=H'.get l)
 |[],l=>⟨λh=>(by obtain⟨_,h,_⟩:=h;cases h),λ_=>rfl⟩
 |a::as,l=>by
  have e:=ck (p:=p) (n0:=n0) (i:=i) (H:=H) (H':=H') (al:=as) l
  simp only[ff]
  cases hp:p.pre a i with
  |true=>
   simp only[cond_true]
   have:Hid p n0 i (a::as) l↔Hid p n0 i as l:=by
    constructor
    ·rintro⟨b,c,h1,d⟩
     rcases List.mem_cons.1 c with rfl|c
     ·rw[hp]at h1;cases h1
     ·exact⟨b,c,h1,d⟩
    ·rintro⟨b,c,h⟩
     exact⟨b,d_ _ c,h⟩
   rw[this]
   exact e
  |false=>
   simp only[cond_false,A_]
   by_cases hl:l=n0+a
   ·rw[if_pos hl]
    exact⟨λ_=>by rw[hl],λh=>absurd ⟨a,i_,hp,hl⟩ h⟩
   ·rw[if_neg hl]
    have:Hid p n0 i (a::as) l↔Hid p n0 i as l:=by
     constructor
     ·rintro⟨b,c,h1,d⟩
      rcases List.mem_cons.1 c with rfl|c
      ·exact absurd d hl
      ·exact⟨b,c,h1,d⟩
     ·rintro⟨b,c,h⟩
      exact⟨b,d_ _ c,h⟩
    rw[this]
    exact e
end
section
def jI.val(e:jI):AV :=
 match e.out with
 | .skip=> .bK []
 | .pure v=>v
 | .fresh v _=>v
 | .read v=>v
 | .gz v _=>v
def dO(E:Nat->jI)(i:Nat):Prop := ∃v H,(E i).out= .gz v H
def eH(E:Nat->jI)(i:Nat):Prop := ∃v b,(E i).out= .fresh v b
theorem St.Vy(s:St)(d:Option Tmp)(a:AV):(s.put d a).H=s.H:=by
 cases s
 cases d with
 |none=>rfl
 |some i=>simp only[St.put];cases k_ i _<;>rfl
theorem St.Tk(s:St)(d:Option Tmp)(a:AV):(s.put d a).nt=s.nt:=by
 cases s
 cases d with
 |none=>rfl
 |some i=>simp only[St.put];cases k_ i _<;>rfl
theorem St.Tl(s:St)(d:Option Tmp)(a:AV):(s.put d a).df=s.df:=by
 cases s
 cases d with
 |none=>rfl
 |some i=>simp only[St.put];cases k_ i _<;>rfl
theorem St.Vz(s:St)(d:Option Tmp)(a:AV)(u:Nat):cR (s.put d a).t u=if d=z u/\u<s.nt then a else cR s.t u:=by
 cases d with
 |none=>simp[St.put]
 |some i=>
  cases hi:k_ i s.nt with
  |true=>
   simp only[St.put,hi,cond_true,oo]
   rw[o_]at hi
   by_cases hu:u=i
   ·subst hu;simp[hi]
   ·have :¬ (z i=z u):=λe=>hu (by cases e;rfl)
    simp[hu,this]
  |false=>
   have b :¬ i<s.nt:=λe=>by rw[<-o_,hi]at e;cases e
   simp only[St.put,hi,cond_false]
   rw[if_neg]
   rintro⟨e,h⟩
   cases e
   exact b h
theorem jI.Tm(e:jI)(n0 u:Nat):cR (e.next n0).t u=if e.o.dst=z u/\u<e.s.nt then e.val else cR e.s.t u:=by
 unfold jI.next jI.val
 cases e.out<;>simp only[St.Vz,St.heap]<;>rfl
theorem jI.Pu(e:jI)(n0:Nat):(e.next n0).nt=e.s.nt:=by
 unfold jI.next
 cases e.out<;>simp only[St.Tk,St.heap]
theorem jI.Pv(e:jI)(n0:Nat):(e.next n0).df=e.s.df:=by
 unfold jI.next
 cases e.out<;>simp only[St.Tl,St.heap]
theorem pu(n0:Nat)(s0:St)(E:Nat->jI)(i:Nat):fI n0 s0 E (i+1)=(E i).next n0:=rfl
set_option linter.unusedSectionVars false
section
variable {P:Program} {I:ba} {ops:Array Oper} {al:List Nat} {n0 N:Nat} {s0 sf:St} {E:Nat->jI}
variable (hplan:gP I ops (bz ops)=true) (ht:iI P I ops (bz ops) al n0 N s0 ops.size E sf)
include hplan ht
theorem Pw{i:Nat}(hi:i<ops.size):(E i).s.H=(fI n0 s0 E i).H:=(ht.same i hi).H
theorem tM{i:Nat}(hi:i<ops.size):ops[i]? =z (E i).o:=by
 have:=(ht.ok i hi).1
 rwa[ht.ix i hi]at this
theorem KV:∀i,i<=ops.size->(fI n0 s0 E i).nt=s0.nt
 |0,_=>rfl
 |i+1,hi=>by
  rw[pu,jI.Pu,(ht.same i O).nt]
  exact KV i O
theorem R2:∀i,i<=ops.size->(fI n0 s0 E i).df=s0.df
 |0,_=>rfl
 |i+1,hi=>by
  rw[pu,jI.Pv,(ht.same i O).df]
  exact R2 i O
theorem Tn{i:Nat}(hi:i<ops.size)(u:Nat):cR (fI n0 s0 E (i+1)).t u=if(E i).o.dst=z u/\u<s0.nt then(E i).val else cR (fI n0 s0 E i).t u:=by
 rw[pu,jI.Tm,(ht.same i hi).t u,(ht.same i hi).nt,KV hplan ht i O]
theorem qx{u:Nat}:∀(d i:Nat),i+d<=ops.size->(∀j,i<=j->j<i+d->(E j).o.dst≠z u)->cR (fI n0 s0 E (i+d)).t u=cR (fI n0 s0 E i).t u
 |0,i,_,_=>rfl
 |d+1,i,hi,h=>by
  have e:i+(d+1)=(i+d)+1:=O
  rw[e,Tn hplan ht O,if_neg (λa=>h (i+d) O O a.1)]
  exact qx d i O λj b c=>h j b O
theorem BE{u:Nat}(a :¬ u<s0.nt):∀i,i<=ops.size->cR (fI n0 s0 E i).t u=cR s0.t u
 |0,_=>rfl
 |i+1,hi=>by
  rw[Tn hplan ht O,if_neg (λh=>a h.2)]
  exact BE a i O
theorem kL{i:Nat}(hi:i<ops.size):(¬ dO E i/\¬ eH E i/\(fI n0 s0 E (i+1)).H=(fI n0 s0 E i).H)∨
  (¬ dO E i/\∃v b,(E i).out= .fresh v b/\i∈al/\(fI n0 s0 E (i+1)).H=(fI n0 s0 E i).H.set (n0+i) b)∨
  (¬ eH E i/\∃v H2 H',(E i).out= .gz v H2/\H2=ff (bz ops) n0 i (fI n0 s0 E i).H al H'/\H'.n<=N/\(fI n0 s0 E (i+1)).H=H2):=by
 have d:=(ht.ok i hi).2
 have f:=ht.ix i hi
 have g:=Pw hplan ht hi
 have a:∀o,(E i).out=o->(fI n0 s0 E (i+1)).H=(match o with| .fresh _ b=>(fI n0 s0 E i).H.set (n0+i) b| .gz _ H=>H|_=>(fI n0 s0 E i).H):=by
  intro o c
  rw[pu]
  simp only[jI.next,c]
  cases o<;>simp only[St.Vy,St.heap,f,g]
 cases c:(E i).out with
 |skip=>exact .inl ⟨(λ⟨_,_,e⟩=>by rw[c]at e;cases e),(λ⟨_,_,e⟩=>by rw[c]at e;cases e),a _ c⟩
 |pure v=>exact .inl ⟨(λ⟨_,_,e⟩=>by rw[c]at e;cases e),(λ⟨_,_,e⟩=>by rw[c]at e;cases e),a _ c⟩
 |read v=>exact .inl ⟨(λ⟨_,_,e⟩=>by rw[c]at e;cases e),(λ⟨_,_,e⟩=>by rw[c]at e;cases e),a _ c⟩
 |fresh v b=>
  rw[c]at d
  exact .inr (.inl ⟨(λ⟨_,_,e⟩=>by rw[c]at e;cases e),v,b,rfl,by rw[<-f];exact d.2.2.1,a _ c⟩)
 |gz v H2=>
  rw[c]at d
  obtain⟨_,_,H',_,h,j⟩:=d
  rw[f,g]at h
  exact .inr (.inr ⟨(λ⟨_,_,e⟩=>by rw[c]at e;cases e),v,H2,H',rfl,h,j,a _ c⟩)
theorem Px(a:s0.H.n<=N):∀i,i<=ops.size->(fI n0 s0 E i).H.n<=N
 |0,_=>a
 |i+1,hi=>by
  rcases kL hplan ht (O:i<ops.size)with⟨_,_,e⟩|⟨_,v,b,_,_,e⟩|⟨_,v,H2,H',_,c,d,e⟩
  ·rw[e];exact Px a i O
  ·rw[e];exact Px a i O
  ·rw[e,c,iS];exact d
theorem Gn(c:∀l,n0<=l->s0.H.get l= .dead){a:Nat}(ha:a∈al):∀i,i<=ops.size->i<=a->(fI n0 s0 E i).H.get (n0+a)= .dead
 |0,_,_=>c _ O
 |i+1,hi,g=>by
  have d:=Gn c ha i O O
  rcases kL hplan ht (O:i<ops.size)with⟨_,_,e⟩|⟨_,v,b,_,_,e⟩|⟨_,v,H2,H',_,h,j,e⟩
  ·rw[e];exact d
  ·rw[e,A_,if_neg O];exact d
  ·rw[e,h]
   have f:(bz ops).pre a i=false:=by
    rw[a_]
    intro f
    have:=uP hplan (O:i<ops.size) f
    omega
   rw[(ck _).1 ⟨a,ha,f,rfl⟩]
   exact d
theorem ll{l:Nat}:∀(d i:Nat),i+d<=ops.size->(∀h,i<=h->h<i+d->dO E h->Hid (bz ops) n0 h al l)->(∀a,i<=a->a<i+d->eH E a->l≠n0+a)->
  (fI n0 s0 E (i+d)).H.get l=(fI n0 s0 E i).H.get l
 |0,i,_,_,_=>rfl
 |d+1,i,hi,j,k=>by
  have m:i+(d+1)=(i+d)+1:=O
  have c:=ll d i O (λh f n=>j h f O) (λa f n=>k a f O)
  rw[m]
  rcases kL hplan ht (O:i+d<ops.size)with⟨_,_,e⟩|⟨_,v,b,g,_,e⟩|⟨_,v,H2,H',g,o,p,e⟩
  ·rw[e];exact c
  ·rw[e,A_,if_neg (k (i+d) O O ⟨v,b,g⟩)];exact c
  ·rw[e,o,(ck _).1 (j (i+d) O O ⟨v,H2,g⟩)]
   exact c
theorem nF:∀(d i:Nat),i+d<=ops.size->(∀h,i<=h->h<i+d->¬ dO E h)->(fI n0 s0 E (i+d)).H.n=(fI n0 s0 E i).H.n
 |0,i,_,_=>rfl
 |d+1,i,hi,a=>by
  have g:i+(d+1)=(i+d)+1:=O
  have c:=nF d i O (λh j k=>a h j O)
  rw[g]
  rcases kL hplan ht (O:i+d<ops.size)with⟨_,_,e⟩|⟨_,v,b,f,_,e⟩|⟨_,v,H2,H',f,l,m,e⟩
  ·rw[e];exact c
  ·rw[e];exact c
  ·exact absurd ⟨v,H2,f⟩ (a (i+d) O O)
end
theorem qy(E:Nat->jI)(k:Nat):∀(d i:Nat),i+d=k->∃m,i<=m/\m<=k/\(m<k->dO E m)/\∀h,i<=h->h<m->¬ dO E h
 |0,i,h=>⟨i,dw _,O,λc=>O,λh b a=>O⟩
 |d+1,i,h=>by
  by_cases hi:dO E i
  ·exact⟨i,dw _,O,λ_=>hi,λh b a=>O⟩
  ·obtain⟨m,b,a,f,g⟩:=qy E k d (i+1) O
   refine⟨m,O,a,f,λh l j=>?_⟩
   by_cases e:h=i
   ·subst e;exact hi
   ·exact g h O j
end
section
set_option linter.unusedSectionVars false
def dH(listed:Array Bool)(i:Nat):Prop:=listed.getD i false=true
structure Py (ops:Array Oper) (al:List Nat) (n0 N:Nat) (s0:St) (E:Nat->jI) (c:fw) (DI:Env) (listed:Array Bool) (m:Nat) (ρ:Env) (HS:AH) (a:Act) (w:World):Prop where
 size:listed.size=ops.size
 closed:∀f g,ops[f]? =z g->dH listed f->∀e∈g.after,Region.binds .any e=true->dH listed e.on
 Pc:m<=ops.size
 mh:m<ops.size->dO E m/\¬ dH listed m
 mlt:∀h,h<m->dO E h->dH listed h
 n:HS.n=(fI n0 s0 E m).H.n
 lo:n0+ops.size<=HS.n
 g1:∀x,x<ops.size->eH E x->dH listed x->x<m->HS.get (n0+x)=(fI n0 s0 E m).H.get (n0+x)
 g2:∀x k b,x<ops.size->(E x).out= .fresh k b->dH listed x->m<=x->HS.get (n0+x)=b
 g3:∀x,x<ops.size->eH E x->¬ dH listed x->HS.get (n0+x)= .dead/\ρ (n0+x)=n_
 g4:∀l,(∀x,x<ops.size->eH E x->l≠n0+x)->HS.get l=(fI n0 s0 E m).H.get l
 rel:Rel c ρ HS w
 ext:Ext DI ρ
 p9:a.tmps.size=s0.nt
 HY:∀i,¬ i<s0.nt->VR ρ (cR s0.t i) undef
 tmp:∀x,x<=ops.size->(x<ops.size->¬ dH listed x)->∀i,(x<ops.size->i∈gA ops (E x).o)->(∀f,f<x->(E f).o.dst=z i->dH listed f)->VR ρ (cR (fI n0 s0 E x).t i) (a.tmps.getD i undef)
 df:Gh ρ s0.df a.defers
theorem vO(E:Nat->jI)(i:Nat):∀d,(∀h,i<=h->h<i+d->¬ dO E h)∨∃h,i<=h/\h<i+d/\dO E h/\∀a,h<a->a<i+d->¬ dO E a
 |0=> .inl λh b c=>O
 |d+1=>by
  by_cases f:dO E (i+d)
  ·exact .inr ⟨i+d,O,O,f,λa b c=>O⟩
  ·rcases vO E i d with h|⟨h,b,c,g,j⟩
   ·refine .inl λa b c=>?_
    by_cases e:a=i+d
    ·subst e;exact f
    ·exact h a b O
   ·refine .inr ⟨h,b,O,g,λa k l=>?_⟩
    by_cases e:a=i+d
    ·subst e;exact f
    ·exact j a k O
section
variable {P:Program} {I:ba} {ops:Array Oper} {al:List Nat} {n0 N:Nat} {s0 sf:St} {E:Nat->jI} {c:fw} {DI:Env}
variable (hplan:gP I ops (bz ops)=true) (ht:iI P I ops (bz ops) al n0 N s0 ops.size E sf)
include hplan ht
theorem vP{listed:Array Bool}{ρ ρ':Env}{a:Act}{y:Nat}(G:y<ops.size)(H :¬ dH listed y)(p:∀i,(bz ops).pre i y=true->dH listed i)
  (I:∀b,b<ops.size->dH listed b->∀i,(bz ops).pre i b=true->dH listed i) (J:listed.size=ops.size)
  (l:a.tmps.size=s0.nt) (K:∀u,¬ u<s0.nt->VR ρ (cR s0.t u) undef)
  (q:∀x,x<=ops.size->(x<ops.size->¬ dH listed x)->∀u,(x<ops.size->u∈gA ops (E x).o)->(∀j,j<x->(E j).o.dst=z u->dH listed j)->VR ρ (cR (fI n0 s0 E x).t u) (a.tmps.getD u undef))
  (hx:Ext ρ ρ') {v:Value} (R:VR ρ' (E y).val v):
  ∀x,x<=ops.size->(x<ops.size->¬ dH (listed.setIfInBounds y true) x)->∀u,(x<ops.size->u∈gA ops (E x).o)->(∀j,j<x->(E j).o.dst=z u->dH (listed.setIfInBounds y true) j)->
   VR ρ' (cR (fI n0 s0 E x).t u) ((a.put (E y).o.dst v).tmps.getD u undef):=by
 have g:∀j,dH (listed.setIfInBounds y true) j↔j=y∨dH listed j:=λj=>by
  unfold dH
  by_cases e:j=y
  ·subst e
   simp[B,J,G]
  ·simp only[B,g_]
   rw[if_neg (λS=>e S.symm)]
   simp[e]
 intro x r s u N P
 have w:x<ops.size->¬ dH listed x:=λh hl=>s h ((g x).2 (.inr hl))
 have L:x<ops.size->x≠y:=λh e=>s h ((g x).2 (.inl e))
 by_cases c:u<s0.nt
 ·by_cases n:(E y).o.dst=z u
  ·have f:(a.put (E y).o.dst v).tmps.getD u undef=v:=by
    rw[n]
    simp[Act.put,B,l,c]
   rw[f]
   by_cases T:y<x
   ·
    have m:∀b,y+1<=b->b<(y+1)+(x-(y+1))->(E b).o.dst≠z u:=by
     intro b Y Z Q
     have C:b<ops.size:=O
     have M:dH listed b:=((g b).1 (P b O Q)).resolve_left O
     have:(bz ops).pre y b=true:=mD hplan (tM hplan ht C) (tM hplan ht G) O (.inr (.inl ⟨u,n,by simp[gA,Q]⟩))
     exact H (I b C M y this)
    have:=qx hplan ht (x-(y+1)) (y+1) O m
    have U:y+1+(x-(y+1))=x:=O
    rw[U]at this
    rw[this,Tn hplan ht G,if_pos ⟨n,c⟩]
    exact R
   ·have k:x<ops.size:=by omega
    have V:=L k
    have:(bz ops).pre x y=true:=mD hplan (tM hplan ht G) (tM hplan ht k) O (.inr (.inr ⟨u,n,N k⟩))
    exact absurd (p x this) (w k)
  ·have f:(a.put (E y).o.dst v).tmps.getD u undef=a.tmps.getD u undef:=by
    cases D:(E y).o.dst with
    |none=>rfl
    |some d=>
     have:d≠u:=λe=>n (by rw[D,e])
     simp only[Act.put,B,g_]
     rw[if_neg this]
   rw[f]
   refine VR.ext hx _ _ (q x r w u N λj W F=>((g j).1 (P j W F)).resolve_left λe=>?_)
   subst e
   exact n F
 ·rw[BE hplan ht c x r]
  have f:(a.put (E y).o.dst v).tmps.getD u undef=undef:=by
   have X:(a.put (E y).o.dst v).tmps.size=s0.nt:=by
    cases D:(E y).o.dst with
    |none=>exact l
    |some d=>simp[Act.put,l]
   rw[B,Array.getElem?_eq_none (by rw[X];exact q_ c)]
   rfl
  rw[f]
  exact VR.ext hx _ _ (K u c)
theorem To{listed:Array Bool}{m:Nat}{ρ:Env}{HS:AH}{a:Act}{w:World}(hN:s0.H.n<=N)(er:∀l,n0<=l->s0.H.get l= .dead)(e7:∀l,c.E l->l<n0)(hG:c.G=I.G)
  (h:Py ops al n0 N s0 E c DI listed m ρ HS a w) {y:Nat} (hy:y∈Region.ready .any ops listed) {ro:Option Nat} {n:Nat} {K:Act->World->Prop} {Q:Exit->Act->World->Prop}
  (hK:∀m' ρ' e8 a' w',Py ops al n0 N s0 E c DI (listed.setIfInBounds y true) m' ρ' e8 a' w'->K a' w'):wpOpIn (WF ro) n P ops Q y K a w:=by
 obtain⟨dd,o,ag,dk⟩:=mem_ready.1 hy
 have R:y<ops.size:=(Array.getElem?_eq_some_iff.1 ag).1
 have ai :¬ dH listed y:=by
  unfold dH
  rw[B,b_ (by rw[h.size];exact R)]at dd⊢
  simpa using dd
 have W:(E y).o=o:=by
  have:=tM hplan ht R
  rw[ag]at this
  exact(Option.some.inj this).symm
 have T:∀i,(bz ops).pre i y=true->dH listed i:=j3 hplan h.closed ag (λe he hb=>dk e he hb)
 have b5:∀p,p<ops.size->dH listed p->∀i,(bz ops).pre i p=true->dH listed i:=λp hz e9=>j3 hplan h.closed (b_ hz) (h.closed p _ (b_ hz) e9)
 have C:∀j,dH (listed.setIfInBounds y true) j↔j=y∨dH listed j:=λj=>by
  unfold dH
  by_cases e:j=y
  ·subst e
   simp[B,h.size,R]
  ·simp only[B,g_]
   rw[if_neg (λe'=>e e'.symm)]
   simp[e]
 have aj:(listed.setIfInBounds y true).size=ops.size:=by simp[h.size]
 have Z:∀j o,ops[j]? =z o->dH (listed.setIfInBounds y true) j->∀e∈o.after,Region.binds .any e=true->dH (listed.setIfInBounds y true) e.on:=by
  intro j o' dv hl e he hb
  refine(C _).2 (.inr ?_)
  rcases(C j).1 hl with rfl|hl
  ·rw[ag]at dv;cases dv
   exact dk e he hb
  ·exact h.closed j o' dv hl e he hb
 have bq:∀u,u∈gA ops o->VR ρ (cR (E y).s.t u) (a.tmps.getD u undef):=by
  intro u hu
  rw[(ht.same y R).t u]
  refine h.tmp y (y_ R) (λ_=>ai) u (λ_=>by rw[W];exact hu) λj hj fa=>?_
  have fb:j<ops.size:=O
  exact T j (mD hplan ag (tM hplan ht fb) hj (.inr (.inl ⟨u,fa,hu⟩)))
 have b1:∀x,VR ρ ((E y).s.lk I.G o x) (a.eval x):=by
  intro x
  cases x with
  |tmp u=>
   simp only[St.lk,Act.eval]
   cases hu:sE (D8 o) u with
   |true=>exact bq u (by simp only[gA,List.mem_append];exact .inl (.inr (vL.1 hu)))
   |false=>simp only[cond_false,VR]
  |const v=>
   simp only[St.lk,St.ev,Sj,Act.eval]
   split
   ·rename_i a ha;exact jZ ρ v a ha
   ·simp only[VR]
  |global g=>
   simp only[St.lk,St.ev,Act.eval]
   cases hg:k_ (Lk g) I.G&&f_ (ux (Lk g)) g with
   |true=>
    rw[bf,o_,Nat.beq_eq]at hg
    obtain⟨N,hN⟩:=h.rel.fp (Lk g) O
    simp only[cond_true,VR]
    exact⟨g,N,by rw[hg.2]at hN;exact hN,zB⟩
   |false=>simp only[cond_false,VR]
  |func f=>simp only[St.lk,St.ev,Act.eval,VR];exact⟨[],[],rfl,zH,zH⟩
 have cf:=ht.ix y R
 have U:=(ht.ok y R).2
 have ea:=Pw hplan ht R
 have S:pq ops (E y)->Region.wanted o (yielded ops a.tmps)=true:=by
  rintro(hg|⟨j,want,d,hg,hd,hv⟩)
  ·rw[W]at hg;simp[Region.wanted,hg]
  ·rw[W]at hg
   have:=bq d (by simp[gA,hg,hd])
   rw[hv]at this
   simp only[VR]at this
   rw[ph hg hd this]
   simp
 have cg:KT ops (E y)->Region.wanted o (yielded ops a.tmps)=false:=by
  rintro⟨j,want,d,hg,hd,hv⟩
  rw[W]at hg
  have:=bq d (by simp[gA,hg,hd])
  rcases hv with hv|hv
  ·rw[hv]at this
   simp only[VR]at this
   rw[ph hg hd this]
   cases want<;>rfl
  ·rw[hv]at this
   simp only[VR]at this
   obtain⟨vs,h5,h6⟩:=this
   simp only[aU]at h6
   subst h6
   exact nA hg hd h5
 have ap:Region.wanted o (yielded ops a.tmps)=true->o.wpIn (WF ro) n P a w K Q->wpOpIn (WF ro) n P ops Q y K a w:=λhw hh=>by
  simp only[wpOpIn,ag,hw,if_true];exact hh
 have bs:∀(v:AV)(u:Value)(w':World)(ρ':Env),(E y).val=v->¬ dO E y->¬ eH E y->Ext ρ ρ'->(∀x,x<ops.size->ρ' (n0+x)=ρ (n0+x))->Rel c ρ' HS w'->VR ρ' v u->K (a.put o.dst u) w':=by
  intro v u w' ρ' et ed ch hx fo hr hv
  have ad:=vP hplan ht R ai T b5 h.size h.p9 h.HY h.tmp hx (by rw[et];exact hv)
  rw[W]at ad
  refine hK m ρ' HS _ w' ⟨aj,Z,h.Pc,λV=>⟨(h.mh V).1,λhl=>?_⟩,λx b6 hh=>(C x).2 (.inr (h.mlt x b6 hh)),h.n,h.lo,λx r D hl V=>?_,λx v b r D hl V=>?_,λx r D hl=>?_,h.g4,hr,h.ext.trans hx,?_,λu hu=>VR.ext hx _ _ (h.HY u hu),ad,?_⟩
  ·rcases(C m).1 hl with e|hl
   ·rw[e]at V
    exact ed (e▸(h.mh (e▸V)).1)
   ·exact(h.mh V).2 hl
  ·refine h.g1 x r D (((C x).1 hl).resolve_left λe=>ch (e▸D)) V
  ·exact h.g2 x v b r D (((C x).1 hl).resolve_left λe=>ch (e▸⟨v,b,D⟩)) V
  ·obtain⟨e1,e2⟩:=h.g3 x r D λb8=>hl ((C x).2 (.inr b8))
   exact⟨e1,(fo x r).trans e2⟩
  ·cases hd:o.dst with
   |none=>exact h.p9
   |some d=>simp[Act.put,h.p9]
  ·cases hd:o.dst with
   |none=>exact h.df.ext hx
   |some d=>exact h.df.ext hx
 have X:∀out,(E y).out=out->(∀v H,out≠ .gz v H)->¬ dO E y:=λout ho ee ⟨v,H,e⟩=>ee v H (by rw[<-ho,e])
 have Y:∀out,(E y).out=out->(∀v b,out≠ .fresh v b)->¬ eH E y:=λout ho ee ⟨v,b,e⟩=>ee v b (by rw[<-ho,e])
 have J:∀x,x<ops.size->eH E x->x∈al:=λx r D=>by
  rcases kL hplan ht r with⟨_,e,_⟩|⟨_,_,_,_,e,_⟩|⟨e,_⟩
  ·exact absurd D e
  ·exact e
  ·exact absurd D e
 cases q:(E y).out with
 |skip=>
  rw[q]at U
  have hw:=cg U
  simp only[wpOpIn,ag,hw,kH,if_false]
  exact⟨λ_ _=>trivial,bs (.bK []) undef w ρ (by simp[jI.val,q]) (X _ q zB) (Y _ q zB) (Ext.refl ρ) (λ_ _=>rfl) h.rel vD⟩
 |pure v=>
  rw[q]at U
  obtain⟨hw,_,H',ef,b0,F⟩:=U
  rw[W]at b0 F
  have b7:HS.n<=N:=by rw[h.n];exact Px hplan ht hN m h.Pc
  obtain⟨u,w',ρ',e1,e2,e3,e4,_⟩:=F _ ρ w a.eval b1 (h.rel.blank b7)
  obtain⟨f1,f2⟩:=h.rel.Th b7 e3 ef
  refine ap (S hw) ⟨iA,?_⟩
  rw[Oper.semAt_eq _ _ _ b0,e1,Oper.uponIn_value]
  refine bs v u w' ρ' (by simp[jI.val,q]) (X _ q zB) (Y _ q zB) f1 (λx hx=>?_) f2 e4
  have eu:=h.lo
  have:n0+x<(HS.up N).n:=u_ O b7
  exact(e3.env (n0+x) this).2
 |read v=>
  rw[q]at U
  obtain⟨hw,_,b3⟩:=U
  have key:∃M:AH,eE P o ((E y).s.lk I.G o) M v/\M.n=HS.n/\∀l,M.get l= .dead∨M.get l=HS.get l:=by
   by_cases eg:m<y
   ·have a7:m<ops.size:=by omega
    obtain⟨⟨u,Hh,V⟩,ei⟩:=h.mh a7
    have hp:(bz ops).pre m y=false:=by
     rw[a_];intro e;exact ei (T m e)
    have hb:=ht.back y m v u Hh R eg q V hp
    rw[W]at hb
    refine⟨_,hb,by rw[rp,Pw hplan ht a7];exact h.n.symm,λl=>?_⟩
    by_cases hid:Hid (bz ops) n0 y al l
    ·exact .inl ((jJ l).1 hid)
    ·rw[(jJ l).2 hid,Pw hplan ht a7]
     by_cases az:∃x,x<ops.size/\eH E x/\l=n0+x
     ·obtain⟨x,r,D,rfl⟩:=az
      have b4:=J x r D
      have a8:(bz ops).pre x y=true:=by
       cases a8:(bz ops).pre x y with
       |true=>rfl
       |false=>exact absurd ⟨x,b4,a8,rfl⟩ hid
      by_cases b9:x<m
      ·exact .inr (h.g1 x r D (T x a8) b9).symm
      ·exact .inl (Gn hplan ht er b4 m h.Pc O)
     ·exact .inr (h.g4 l λx r D e=>az ⟨x,r,D,e⟩).symm
   ·have fs:y<m:=by
     rcases z_ y m with e|e
     ·exact e
     ·have:m=y:=by omega
      subst this
      obtain⟨⟨u,Hh,V⟩,_⟩:=h.mh R
      rw[q]at V;cases V
    have a7:=h.Pc
    have stage:∃x,y<=x/\x<=m/\(∀k,x<=k->k<m->¬ dO E k)/\eE P o ((E y).s.lk I.G o) (gQ (bz ops) n0 y al (fI n0 s0 E x).H) v:=by
     rcases vO E y (m-y)with ft|⟨k,h1,h2,h3,h4⟩
     ·refine⟨y,dw _,y_ fs,λk h1 h2=>ft k h1 O,?_⟩
      rw[cf,ea,W]at b3
      exact b3
     ·obtain⟨u,Hh,hk⟩:=h3
      have ez:y<k:=by
       rcases z_ y k with e|e
       ·exact e
       ·have:k=y:=by omega
        subst this
        rw[q]at hk;cases hk
      have ej:k<ops.size:=O
      have hp:(bz ops).pre y k=false:=by
       rw[a_];intro e
       exact ai (b5 k ej (h.mlt k O ⟨u,Hh,hk⟩) y e)
      have hb:=ht.R1 y k v u Hh ej ez q hk hp
      rw[W]at hb
      have fv:Hh=(fI n0 s0 E (k+1)).H:=by
       rcases kL hplan ht ej with⟨e,_,_⟩|⟨e,_⟩|⟨_,v',fN,ga,e1,_,_,e2⟩
       ·exact absurd ⟨u,Hh,hk⟩ e
       ·exact absurd ⟨u,Hh,hk⟩ e
       ·rw[hk]at e1;cases e1;exact e2.symm
      rw[fv]at hb
      exact⟨k+1,O,O,λj h5 h6=>h4 j O O,hb⟩
    obtain⟨x,gl,b6,ek,gb⟩:=stage
    have e0:x+(m-x)=m:=O
    have cc:=nF hplan ht (m-x) x O λk h1 h2=>ek k h1 O
    rw[e0]at cc
    refine⟨_,gb,by rw[rp,h.n,cc],λl=>?_⟩
    by_cases hid:Hid (bz ops) n0 y al l
    ·exact .inl ((jJ l).1 hid)
    ·rw[(jJ l).2 hid]
     by_cases az:∃p,p<ops.size/\eH E p/\l=n0+p
     ·obtain⟨p,eC,D,rfl⟩:=az
      have eD:=J p eC D
      have cp:(bz ops).pre p y=true:=by
       cases cp:(bz ops).pre p y with
       |true=>rfl
       |false=>exact absurd ⟨p,eD,cp,rfl⟩ hid
      have gm:=uP hplan R cp
      have hc:=ll hplan ht (l:=n0+p) (m-x) x O (λk h1 h2 hh=>absurd hh (ek k h1 O)) (λa h1 h2 _=>O)
      rw[e0]at hc
      rw[<-hc]
      exact .inr (h.g1 p eC D (T p cp) O).symm
     ·have hc:=ll hplan ht (l:=l) (m-x) x O (λk h1 h2 hh=>absurd hh (ek k h1 O)) (λa h1 h2 D e=>az ⟨a,O,D,e⟩)
      rw[e0]at hc
      rw[<-hc]
      exact .inr (h.g4 l λx r D e=>az ⟨x,r,D,e⟩).symm
  obtain⟨M,⟨b0,F⟩,en,hM⟩:=key
  have eo:=h.rel.xN (L:=λl=>M.get l= .dead) (HM:=M) en λl=>by
   by_cases e:M.get l= .dead
   ·exact .inl ⟨e,e⟩
   ·exact .inr ⟨e,(hM l).resolve_left e⟩
  obtain⟨u,e1,e2⟩:=F _ ρ w a.eval b1 eo
  refine ap (S hw) ⟨iA,?_⟩
  rw[Oper.semAt_eq _ _ _ b0,e1,Oper.uponIn_value]
  exact bs v u w ρ (by simp[jI.val,q]) (X _ q zB) (Y _ q zB) (Ext.refl ρ) (λ_ _=>rfl) h.rel e2
 |fresh v b=>
  rw[q]at U
  obtain⟨hw,_,eF,v0,H',ef,⟨b0,F⟩,hv,hb⟩:=U
  rw[W]at b0 F
  rw[cf]at eF hv hb
  have b7:HS.n<=N:=by rw[h.n];exact Px hplan ht hN m h.Pc
  obtain⟨u,w',ρ',e1,e2,e3,e4,_⟩:=F _ ρ w a.eval b1 (h.rel.blank b7)
  have eu:=h.lo
  obtain⟨d1,d2⟩:=h.g3 y R ⟨v,b,q⟩ ai
  obtain⟨eG,off,hx,eL,cr⟩:=h.rel.Ti b7 e3 ef (ℓ:=n0+y) O d1 d2 (λe=>by have:=e7 _ e;omega)
  rw[<-hb]at cr
  have gf:VR eG v u:=by rw[hv];exact VR.bD eL _ _ e4
  refine ap (S hw) ⟨iA,?_⟩
  rw[Oper.semAt_eq _ _ _ b0,e1,Oper.uponIn_value]
  have ad:=vP hplan ht R ai T b5 h.size h.p9 h.HY h.tmp hx (v:=u) (by simp only[jI.val,q];exact gf)
  rw[W]at ad
  have ed :¬ dO E y:=X _ q zB
  refine hK m eG (HS.set (n0+y) b) _ w' ⟨aj,Z,h.Pc,λV=>⟨(h.mh V).1,λhl=>?_⟩,λx b6 hh=>(C x).2 (.inr (h.mlt x b6 hh)),h.n,h.lo,λx r D hl V=>?_,λx v' b' r D hl V=>?_,λx r D hl=>?_,λl hl=>?_,cr,h.ext.trans hx,?_,λu hu=>VR.ext hx _ _ (h.HY u hu),ad,?_⟩
  ·rcases(C m).1 hl with e|hl
   ·rw[e]at V
    exact ed (e▸(h.mh (e▸V)).1)
   ·exact(h.mh V).2 hl
  ·by_cases e:x=y
   ·subst e
    rw[h_]
    have hc:=ll hplan ht (l:=n0+x) (m-(x+1)) (x+1) (by have:=h.Pc;omega) (λk h1 h2 hh=>⟨x,eF,by
      rw[a_];intro hp
      have eM:=h.Pc
      exact ai (b5 k O (h.mlt k O hh) x hp),rfl⟩) (λa h1 h2 _=>O)
    have e0:x+1+(m-(x+1))=m:=O
    rw[e0]at hc
    rw[hc]
    rcases kL hplan ht r with⟨_,e,_⟩|⟨_,v',b',e1,_,e2⟩|⟨e,_⟩
    ·exact absurd D e
    ·rw[q]at e1;cases e1
     rw[e2,h_]
    ·exact absurd D e
   ·rw[w_ _ _ O]
    exact h.g1 x r D (((C x).1 hl).resolve_left e) V
  ·by_cases e:x=y
   ·subst e
    rw[q]at D;cases D
    exact h_ _ _ _
   ·rw[w_ _ _ O]
    exact h.g2 x v' b' r D (((C x).1 hl).resolve_left e) V
  ·have e:x≠y:=λe=>hl ((C x).2 (.inl e))
   obtain⟨e1,e2⟩:=h.g3 x r D λb8=>hl ((C x).2 (.inr b8))
   exact⟨by rw[w_ _ _ O];exact e1,by rw[off _ O];exact e2⟩
  ·have e:l≠n0+y:=hl y R ⟨v,b,q⟩
   rw[w_ _ _ (λe'=>e e'.symm)]
   exact h.g4 l hl
  ·cases hd:o.dst with
   |none=>exact h.p9
   |some d=>simp[Act.put,h.p9]
  ·cases hd:o.dst with
   |none=>exact h.df.ext hx
   |some d=>exact h.df.ext hx
 |gz v H2=>
  rw[q]at U
  obtain⟨hw,a6,H',F,cv,gD⟩:=U
  rw[W]at a6
  rw[cf,ea,W]at F
  rw[cf,ea]at cv
  have eM:=h.Pc
  have eg:m=y:=by
   rcases Nat.lt_trichotomy m y with e|e|e
   ·have a7:m<ops.size:=by omega
    obtain⟨⟨u,Hh,V⟩,ei⟩:=h.mh a7
    have bd:=(ht.ok m a7).2
    rw[V]at bd
    exact absurd (T m (mD hplan ag (tM hplan ht a7) e (.inl ⟨a6,bd.2.1⟩))) ei
   ·exact e
   ·exact absurd (h.mlt y e ⟨v,H2,q⟩) ai
  subst eg
  have en:(gQ (bz ops) n0 m al (fI n0 s0 E m).H).n=HS.n:=by rw[rp];exact h.n.symm
  have eo:=h.rel.xN (L:=Hid (bz ops) n0 m al) en λl=>by
   by_cases hid:Hid (bz ops) n0 m al l
   ·exact .inl ⟨hid,(jJ l).1 hid⟩
   ·refine .inr ⟨hid,?_⟩
    rw[(jJ l).2 hid]
    by_cases az:∃x,x<ops.size/\eH E x/\l=n0+x
    ·obtain⟨x,r,D,rfl⟩:=az
     have a8:(bz ops).pre x m=true:=by
      cases a8:(bz ops).pre x m with
      |true=>rfl
      |false=>exact absurd ⟨x,J x r D,a8,rfl⟩ hid
     exact(h.g1 x r D (T x a8) (uP hplan R a8)).symm
    ·exact(h.g4 l λx r D e=>az ⟨x,r,D,e⟩).symm
  refine ap (S hw) (F ro n (c.xN ρ HS w (Hid (bz ops) n0 m al)) ρ w a K Q hG b1 eo (λv2 H3 u w' ρ' e hx eN hv=>?_) (λv2 H3 u w' ρ' e=>zC))
  cases e
  obtain⟨_,cr⟩:=h.rel.KH (L:=Hid (bz ops) n0 m al) (H2:=ff (bz ops) n0 m HS al H') eN iS λl=>by
   by_cases hid:Hid (bz ops) n0 m al l
   ·exact .inl ⟨hid,(ck l).1 hid⟩
   ·exact .inr ⟨hid,(ck l).2 hid⟩
  have dt:∀l,l<HS.n->l<H'.n/\ρ' l=ρ l:=λl hl=>eN.env l hl
  have hn:HS.n<=H'.n:=q_ λcx=>by have:=(dt _ cx).1;omega
  obtain⟨m',k1,k2,k3,k4⟩:=qy E ops.size (ops.size-(m+1)) (m+1) O
  have e0:m+1+(m'-(m+1))=m':=O
  have eS:(fI n0 s0 E (m+1)).H=H2:=by
   rcases kL hplan ht R with⟨e,_,_⟩|⟨e,_⟩|⟨_,v',fN,ga,e1,_,_,e2⟩
   ·exact absurd ⟨v,H2,q⟩ e
   ·exact absurd ⟨v,H2,q⟩ e
   ·rw[q]at e1;cases e1;exact e2
  have cc:=nF hplan ht (m'-(m+1)) (m+1) O λk h1 h2=>k4 k h1 O
  rw[e0,eS,cv,iS]at cc
  have eT:∀l,(∀a,m+1<=a->a<m'->eH E a->l≠n0+a)->(fI n0 s0 E m').H.get l=H2.get l:=λl hl=>by
   have:=ll hplan ht (l:=l) (m'-(m+1)) (m+1) O (λk h1 h2 hh=>absurd hh (k4 k h1 O)) (λa h1 h2=>hl a h1 O)
   rw[e0,eS]at this
   exact this
  have ad:=vP hplan ht R ai T b5 h.size h.p9 h.HY h.tmp hx (v:=u) (by simp only[jI.val,q];exact hv)
  rw[W]at ad
  have ch :¬ eH E m:=Y _ q zB
  have eu:=h.lo
  have cd:∀x,(bz ops).pre x m=true->x<m:=λx hp=>uP hplan R hp
  refine hK m' ρ' (ff (bz ops) n0 m HS al H') _ w' ⟨aj,Z,k2,λV=>⟨k3 V,λhl=>?_⟩,λx b6 hh=>?_,?_,?_,λx r D hl V=>?_,λx v' b' r D hl V=>?_,λx r D hl=>?_,λl hl=>?_,cr,h.ext.trans hx,?_,λu hu=>VR.ext hx _ _ (h.HY u hu),ad,?_⟩
  ·obtain⟨u',Hh,gi⟩:=k3 V
   have bd:=(ht.ok m' V).2
   rw[gi]at bd
   have hp:=mD hplan (tM hplan ht V) ag (O:m<m') (.inl ⟨bd.2.1,a6⟩)
   exact ai (b5 m' V (((C m').1 hl).resolve_left O) m hp)
  ·by_cases e:x<m
   ·exact(C x).2 (.inr (h.mlt x e hh))
   ·by_cases e2:x=m
    ·exact(C x).2 (.inl e2)
    ·exact absurd hh (k4 x O b6)
  ·rw[iS,cc]
  ·rw[iS];omega
  ·have b9:x≠m:=λe=>ch (e▸D)
   have e5:=((C x).1 hl).resolve_left b9
   have b4:=J x r D
   by_cases cx:x<m
   ·rw[eT _ (λa h1 h2 _=>O),cv]
    by_cases hid:Hid (bz ops) n0 m al (n0+x)
    ·rw[(ck _).1 hid,(ck _).1 hid]
     exact h.g1 x r D e5 cx
    ·rw[(ck _).2 hid,(ck _).2 hid]
   ·have hid:Hid (bz ops) n0 m al (n0+x):=⟨x,b4,by
     rw[a_];intro hp;exact cx (cd x hp),rfl⟩
    rw[(ck _).1 hid]
    obtain⟨v',b',c6⟩:=D
    rw[h.g2 x v' b' r c6 e5 O]
    have hc:=ll hplan ht (l:=n0+x) (m'-(x+1)) (x+1) O (λk h1 h2 hh=>absurd hh (k4 k O O)) (λa h1 h2 _=>O)
    have e1:x+1+(m'-(x+1))=m':=O
    rw[e1]at hc
    rw[hc]
    rcases kL hplan ht r with⟨_,e,_⟩|⟨_,v2,b2,e1,_,e2⟩|⟨e,_⟩
    ·exact absurd ⟨v',b',c6⟩ e
    ·rw[c6]at e1;cases e1
     rw[e2,h_]
    ·exact absurd ⟨v',b',c6⟩ e
  ·have b9:x≠m:=by omega
   have hid:Hid (bz ops) n0 m al (n0+x):=⟨x,J x r ⟨v',b',D⟩,by
    rw[a_];intro hp;have:=cd x hp;omega,rfl⟩
   rw[(ck _).1 hid]
   exact h.g2 x v' b' r D (((C x).1 hl).resolve_left b9) O
  ·have e6 :¬ dH listed x:=λb8=>hl ((C x).2 (.inr b8))
   have hid:Hid (bz ops) n0 m al (n0+x):=⟨x,J x r D,by
    rw[a_];intro hp;exact e6 (T x hp),rfl⟩
   obtain⟨e1,e2⟩:=h.g3 x r D e6
   exact⟨by rw[(ck _).1 hid];exact e1,by rw[(dt _ O).2];exact e2⟩
  ·rw[eT l (λa h1 h2 D=>hl a O D),cv]
   by_cases hid:Hid (bz ops) n0 m al l
   ·rw[(ck _).1 hid,(ck _).1 hid]
    exact h.g4 l hl
   ·rw[(ck _).2 hid,(ck _).2 hid]
  ·cases hd:o.dst with
   |none=>exact h.p9
   |some d=>simp[Act.put,h.p9]
  ·cases hd:o.dst with
   |none=>exact h.df.ext hx
   |some d=>exact h.df.ext hx
end
end
end
end Go.Sx
