/- The proof of a statement of the seat, part 4. -/
import Derived.Test.YtoijalagmmgkbaaGreatDoorX03
import Derived.Laws.Append
set_option linter.all false
set_option linter.defProp false
set_option maxRecDepth 1000000
namespace Go.Sx
open Go
open Option renaming some->M,none->z,bind_eq_some_iff->o_,isSome_none->y_,map_some->Q_
open Nat renaming mul_le_mul_right->a_,zero_add->b_,blt->e_,blt_eq->g_,succ_mul->l_,ble->m_,min->p_,add_zero->s_,zero_mul->u_,lt_add_one->x_,add_mul->A_,ble_eq->D_,beq->H_,min_eq_left->W_,min_le_left->X_,add_assoc->Z_,le_trans->b?
open List renaming take_append_of_le_length->c_,append_assoc->d_,take_of_length_le->h_,drop_append_of_le_length->j_,length_append->n_,flatMap_def->q_,drop_of_length_le->r_,nil_append->t_,take_append_drop->v_,drop_zero->w_,range->B_,getD_eq_getElem?_getD->C_,getElem?_take_of_lt->E_,getElem?_toArray->I_,mem_of_mem_take->K_,mem_of_mem_drop->L_,drop_succ_cons->N_,map_congr_left->O_,getElem?_drop->P_,foldlM_cons->R_,drop_append->S_
open Decidable renaming decide->f_
open Bool renaming eq_false_iff->i_
open _root_.Array renaming ext'->k_,getElem?_modify->G_,length_toList->M_
open Go.Value renaming slice->z_,int->c?
open AH renaming cV->F_,get_set_same->Y_
open AV renaming int->J_,byte->U_,cells?->V_,pW->a?,one->e?
noncomputable section
section
def iO(P:Program)(s:Sem Next)(c:fw)(ρ:Env)(w:World)(a:AV)(H':AH):Prop :=
 ∃b w' ρ',s.run P w= .ok (.value b) w'/\Ext ρ ρ'/\Rel c ρ' H' w'/\VR ρ' a b/\mu w w'
theorem fx.next{P s c ρ w a H'}(h:fx P s c ρ w a H'):iO P (do pure (.value (<-s))) c ρ w a H':=by
 obtain⟨b,w',ρ',d,f⟩:=h
 exact⟨b,w',ρ',by simp[d],f⟩
theorem aU.of_map{ρ ev e}(h:∀x,VR ρ (ev x) (e x)):∀a:List Operand,aU ρ (a.map ev) (a.map e)
 |[]=>zH
 |x::a=>aU.aL.2 ⟨h x,aU.of_map h a⟩
section
variable {R:Type} (X:RI R) (I:ba)
def uJ(mx:Bool):List AV->Option AV
 | .int k x::rest=>rest.foldlM (λa b=>match a,b with
   | .int k x,.int _ y=>M (.int k (bif mx then(if y>x then y else x)else(if y<x then y else x)))
   |_,_=>z) (.int k x)
 |_=>z
def Td:TypeId:=149
def DV(X:RI R)(x:Int)(K:Int->R):Nat->Nat->R
 |0,_=>X.fail
 |n+1,i=>X.cond (f_ (x=Int.ofNat i)) (λ_=>K (Int.ofNat i)) (λ_=>DV X x K n (i+1))
def oj(X:RI R)(I:ba)(t:TypeId)(x i:AV)(K:AV->R):R :=
 match H_ t Td,x,i with
 |true,.ab len _ _,.int k j=>DV X j (λj=>lc X I t x (.int k j) K) len 0
 |_,_,_=>lc X I t x i K
def DW(o:Oper)(ev:Operand->AV)(H:AH)(K:AV->AH->R):R :=
 match o.op with
 | .move x| .assign x=>K (ev x) H
 | .pick c a b=>match ev c with
  | .bool p=>match ev a,ev b with
   | .bool x,.bool y=>K (.bool (bif p then x else y)) H
   |x,y=>X.cond p (λ_=>K x H) (λ_=>K y H)
  |_=>X.fail
 | .alloc t=>match(I.zero t).bind V_ with
  |some cs=>K (.ptr H.n 0 0 0) (H.new (.cells cs (.ty t)))
  |none=>X.fail
 | .box t x=>match(ev x).cells? with
  |some cs=>K (.ptr H.n 0 0 0) (H.new (.cells cs (.ty t)))
  |none=>X.fail
 | .build t parts=>match DL I t (parts.toList.map λp=>(p.1,ev p.2))with
  |some a=>K a H
  |none=>X.fail
 | .buildSlice t len parts=>oh X I t len (parts.toList.map λp=>(p.1,ev p.2)) H K
 | .load t a=>yf X I t H (ev a) (λv=>K v H)
 | .nilCheck x=>match ev x with
  | .ptr l k e j=>K (.ptr l k e j) H
  | .fc cs j=>K (.fc cs j) H
  | .fn f a b=>K (.fn f a b) H
  | .yield l=>K (.yield l) H
  |_=>X.fail
 | .binOp op t x y _=>Tb X I op t (Operand.isConst x||Operand.isConst y) (ev x) (ev y) (λv=>K v H)
 | .unOp op _ x=>Kt X I.wr op (ev x) (λv=>K v H)
 | .convert s d x=>vm X I s d (ev x) H K
 | .makeInterface t x=>match I.dI t with
  |some (.interface _)=>X.fail
  |some _=>K (.iface t (ev x)) H
  |none=>X.fail
 | .makeFunc (.func f) first cap=>K (.fn f (first.toList.map ev) (cap.toList.map ev)) H
 | .makeMap _ z=>K (.map (M H.n)) (H.new (.map []))
 | .makeSlice t l c=>qn X I t (ev l) (ev c) H K
 | .slice t x lo hi mx=>PH X I t (ev x) (lo.map ev) (hi.map ev) (mx.map ev) H (λv=>K v H)
 | .fieldAddr t x f=>ql X I t (ev x) f (λv=>K v H)
 | .field t x f=>DM X I t (ev x) f (λv=>K v H)
 | .indexAddr t x i=>oj X I t (ev x) (ev i) (λv=>K v H)
 | .index t x i=>DN X I t (ev x) (ev i) (λv=>K v H)
 | .lookup t x i ok=>q9 X I t (ev x) (ev i) ok H (λv=>K v H)
 | .extract x i=>match ev x with
  | .bK vs=>match vs[i]? with
   |some a=>K a H
   |none=>X.fail
  |_=>X.fail
 | .call {callee:=.builtin .len,args,argTypes}=>match args.toList,argTypes.toList with
  |[x],[t]=>Pg X I t (ev x) H (λv=>K v H)
  |_,_=>X.fail
 | .call {callee:=.builtin .min,args,..}=>match uJ false (args.toList.map ev)with
  |some a=>K a H
  |none=>X.fail
 | .call {callee:=.builtin .max,args,..}=>match uJ true (args.toList.map ev)with
  |some a=>K a H
  |none=>X.fail
 |_=>X.fail
end
section
variable {R:Type} {X:RI R} {sem:R->Prop} (hX:X.Ok sem) {I:ba} {P:Program} (hI:I.Ok P)
theorem lN{P H s x a}(h:Yields P H s x a){c ρ w v}(d:VR ρ x v)(b:Rel c ρ H w):iO P (do pure (.value (<-s v))) c ρ w a H:=by
 obtain⟨u,e,f⟩:=h c ρ w v d b
 exact(fx.same e b f).next
theorem nr{P H s x y a}(h:q7 P H s x y a){c ρ w v u}(e:VR ρ x v)(f:VR ρ y u)(d:Rel c ρ H w):
  iO P (do pure (.value (<-s v u))) c ρ w a H:=by
 obtain⟨b,g,i⟩:=h c ρ w v u e f d
 exact(fx.same g d i).next
theorem kW{ρ ev e}(h:∀x,VR ρ (ev x) (e x))(x:Option Operand):lf (x.map ev) (x.map e):=by
 cases x with
 |none=>trivial
 |some x=>
  intro k n hn
  have:=h x
  rw[hn]at this
  assumption
theorem sy{P mx ρ}(w):∀{as:List AV}{vs k x a},as.foldlM (λa b => match a,b with
      | .int k x, .int _ y => M (.int k (bif mx then(if y > x then y else x)else(if y < x then y else x)))
      |_,_ => z) (J_ k x) = M a -> aU ρ as vs ->∃v,((vs.foldlM (if mx then Builtin.max2 else Builtin.min2) (c? k x):Sem Value).run P w = .ok v w) /\ VR ρ a v
  |[],vs,k,x,a,h,d => by
    simp only[aU]at d; subst d
    simp only[List.foldlM_nil,Option.pure_def,fE]at h
    subst h
    exact⟨_,by simp; rfl,zB⟩
  |b ::as,vs,k,x,a,h,d => by
    simp only[aU]at d
    obtain⟨u,us,rfl,f,i⟩ := d
    simp only[R_,Option.bind_eq_bind,o_]at h
    obtain⟨c,e,j⟩ := h
    cases b with
    |int m y =>
      simp only[fE]at e
      subst e
      simp only[VR]at f
      subst f
      obtain⟨v,g,l⟩ := sy w j i
      refine⟨v, ?_,l⟩
      cases mx <;> simp only[R_,Sem.run_bind,if_true,kH,if_false,Builtin.min2,Builtin.max2,Sem.run_pure,Result.andThen_ok,cond_true,cond_false]at g ⊢ <;> exact g
    |_ => simp at e
include hX in
theorem yn{x:Int}{K:Int->R}:∀{n i:Nat},sem (DV X x K n i)->sem (K x)
 |0,i,h=>zR
 |n+1,i,h=>by
  have a:=hX.cond _ _ _ h
  by_cases e:x=Int.ofNat i
  ·rw[if_pos (by simpa using e)]at a
   rw[e];exact a
  ·rw[if_neg (by simpa using e)]at a
   exact yn a
include hX in
theorem vw{t:TypeId}{x i:AV}{K:AV->R}(h:sem (oj X I t x i K)):sem (lc X I t x i K):=by
 unfold oj at h
 split at h
 ·exact yn hX h
 ·exact h
include hX hI in
theorem Gd{o:Oper}{ev:Operand->AV}{H:AH}{K:AV->AH->R}(h:sem (DW X I o ev H K)):
  ∃a H',sem (K a H')/\∀c ρ w (e:Operand->Value),(∀x,VR ρ (ev x) (e x))->Rel c ρ H w->iO P (execOp e o) c ρ w a H':=by
 unfold DW at h
 split at h
 case h_1 x D=>exact⟨_,_,h,λc ρ w e m C=>⟨e x,w,ρ,by simp[execOp,D],Ext.refl _,C,m x,mu.refl _⟩⟩
 case h_2 x D=>exact⟨_,_,h,λc ρ w e m C=>⟨e x,w,ρ,by simp[execOp,D],Ext.refl _,C,m x,mu.refl _⟩⟩
 case h_3 cd a b D=>
  split at h
  ·rename_i p hp
   have W:∀c ρ w (e:Operand->Value),(∀x,VR ρ (ev x) (e x))->Rel c ρ H w->(execOp e o).run P w= .ok (.value (if p then e a else e b)) w:=by
    intro c ρ w e m C
    have:=m cd
    rw[hp]at this
    simp only[VR]at this
    simp[execOp,D,this,asBool]
   split at h
   ·rename_i x y hx hy
    refine⟨_,_,h,λc ρ w e m C=>⟨_,w,ρ,W c ρ w e m C,Ext.refl _,C,?_,mu.refl _⟩⟩
    cases p
    ·have:=m b;rw[hy]at this;simpa using this
    ·have:=m a;rw[hx]at this;simpa using this
   ·have T:=hX.cond _ _ _ h
    cases p with
    |true=>exact⟨_,_,by simpa using T,λc ρ w e m C=>⟨_,w,ρ,W c ρ w e m C,Ext.refl _,C,by simpa using m a,mu.refl _⟩⟩
    |false=>exact⟨_,_,by simpa using T,λc ρ w e m C=>⟨_,w,ρ,W c ρ w e m C,Ext.refl _,C,by simpa using m b,mu.refl _⟩⟩
  ·exact zR
 case h_4 t D=>
  split at h
  ·rename_i cs J
   refine⟨_,_,h,λc ρ w e m C=>?_⟩
   simp only[o_]at J
   obtain⟨g,Y,U⟩:=J
   obtain⟨zv,E,F⟩:=hI.mq w Y
   have L:=VR.cells (F ρ) U
   have:iO P (do pure (.value (<-Instr.alloc t true (.tuple #[])))) c ρ w (.ptr H.n 0 0 0) (H.new (.cells cs (.ty t))):=by
    refine(fx.row (mk:=λa=> .pointer (M a)) (el:=t) C L (AV.k9 U) ?_ λρ' O=>by simp only[VR];exact⟨_,_,O,rfl⟩).next
    simp[Instr.alloc,E,newVar,newRow]
   simpa [execOp,D]using this
  ·exact zR
 case h_5 t x D=>
  split at h
  ·rename_i cs J
   refine⟨_,_,h,λc ρ w e m C=>?_⟩
   have L:=VR.cells (m x) J
   have:iO P (do pure (.value (<-Instr.box t (e x)))) c ρ w (.ptr H.n 0 0 0) (H.new (.cells cs (.ty t))):=by
    refine(fx.row (mk:=λa=> .pointer (M a)) (el:=t) C L (AV.k9 J) ?_ λρ' O=>by simp only[VR];exact⟨_,_,O,rfl⟩).next
    simp[Instr.box,newVar,newRow]
   simpa [execOp,D]using this
  ·exact zR
 case h_6 t parts D=>
  split at h
  ·rename_i a ha
   refine⟨_,_,h,λc ρ w e m C=>?_⟩
   obtain⟨v,E,F⟩:=HH hI ha (PR.of_map m parts.toList) w
   have Z:(parts.map λx=>(x.1,e x.2))=(parts.toList.map λp=>(p.1,e p.2)).toArray:=by apply k_;simp
   have:iO P (do pure (.value (<-Instr.build t (parts.map λx=>(x.1,e x.2))))) c ρ w a H:=by rw[Z];exact(fx.same E C F).next
   simpa [execOp,D]using this
  ·exact zR
 case h_7 t len parts D=>
  obtain⟨a,H',E,F⟩:=vk hX hI h
  refine⟨a,H',E,λc ρ w e m C=>?_⟩
  have Z:(parts.map λx=>(x.1,e x.2))=(parts.toList.map λp=>(p.1,e p.2)).toArray:=by apply k_;simp
  have:iO P (do pure (.value (<-Instr.buildSlice t len (parts.map λx=>(x.1,e x.2))))) c ρ w a H':=by rw[Z];exact(F c ρ w _ (PR.of_map m parts.toList) C).next
  simpa [execOp,D]using this
 case h_8 t a D=>
  obtain⟨g,E,F⟩:=vf hX hI h
  refine⟨g,H,E,λc ρ w e m C=>?_⟩
  obtain⟨v,L,Q⟩:=F c ρ w (e a) (m a) C
  simpa [execOp,D]using(fx.same L C Q).next
 case h_9 x D=>
  have V:∀c ρ w (e:Operand->Value) a,ev x=a->(∀x,VR ρ (ev x) (e x))->Rel c ρ H w->((∃b,e x= .pointer (M b))∨(∃f us vs,e x= .func (.func f) us vs)∨∃l,e x= .func (.yield l) #[] #[])->iO P (execOp e o) c ρ w a H:=by
   intro c ρ w e a ha m C hv
   refine⟨e x,w,ρ,?_,Ext.refl _,C,ha▸m x,mu.refl _⟩
   rcases hv with⟨b,hb⟩|⟨f,us,vs,hb⟩|⟨l,hb⟩<;>simp[execOp,D,hb]
  split at h
  ·rename_i l k e j hx
   refine⟨_,_,h,λc ρ w e m C=>V c ρ w e _ hx m C (.inl ?_)⟩
   have:=m x;rw[hx]at this;simp only[VR]at this
   obtain⟨b,N,_,E⟩:=this;exact⟨_,E⟩
  ·rename_i cs j hx
   refine⟨_,_,h,λc ρ w e m C=>V c ρ w e _ hx m C (.inl ?_)⟩
   have:=m x;rw[hx]at this;simp only[VR]at this
   obtain⟨b,q,a7,E,_⟩:=this;exact⟨_,E⟩
  ·rename_i f as bs hx
   refine⟨_,_,h,λc ρ w e m C=>V c ρ w e _ hx m C (.inr (.inl ?_))⟩
   have:=m x;rw[hx]at this;simp only[VR]at this
   obtain⟨us,vs,E,_⟩:=this;exact⟨_,_,_,E⟩
  ·rename_i l hx
   refine⟨_,_,h,λc ρ w e m C=>V c ρ w e _ hx m C (.inr (.inr ?_))⟩
   have:=m x;rw[hx]at this;simp only[VR]at this
   obtain⟨b,N,_,E⟩:=this;exact⟨_,E⟩
  ·exact zR
 case h_10 op t x y yt D=>
  obtain⟨g,E,F⟩:=Pj hX hI h
  refine⟨g,H,E,λc ρ w e m C=>?_⟩
  obtain⟨r,L,Q⟩:=F ρ w (e x) (e y) x y id (m x) (m y)
  have:=(fx.same L C Q).next
  simpa [execOp,D]using this
 case h_11 op t x D=>
  obtain⟨g,E,F⟩:=Ku (P:=P) hX H h
  exact⟨g,H,E,λc ρ w e m C=>by simpa [execOp,D]using lN F (m x) C⟩
 case h_12 s d x D=>
  obtain⟨g,H',E,F⟩:=Bt hX hI h
  exact⟨g,H',E,λc ρ w e m C=>by simpa [execOp,D]using(F c ρ w (e x) (m x) C).next⟩
 case h_13 t x D=>
  split at h
  ·exact zR
  ·rename_i d hd ad
   refine⟨_,_,h,λc ρ w e m C=>?_⟩
   have:iO P (do pure (.value (<-Instr.makeInterface t (e x)))) c ρ w (.iface t (ev x)) H:=by
    refine(fx.same (v:=.iface t (e x)) ?_ C (by simp only[VR];exact⟨_,rfl,m x⟩)).next
    refine run_makeInterface w t (e x) ?_
    have:=hI.dI t d ad
    unfold Program.concrete
    rw[this]
    cases d<;>first|rfl|(exact absurd A (hd _))
   simpa [execOp,D]using this
  ·exact zR
 case h_14 f first cap D=>
  refine⟨_,_,h,λc ρ w e m C=>?_⟩
  have:iO P (do pure (.value (<-Instr.makeFunc (.func f) (first.map e) (cap.map e)))) c ρ w (.fn f (first.toList.map ev) (cap.toList.map ev)) H:=by
   refine(fx.same (v:=.func (.func f) (first.map e) (cap.map e)) (by simp[Instr.makeFunc]) C ?_).next
   simp only[VR]
   exact⟨first.toList.map e,cap.toList.map e,by congr 1<;>(apply k_;simp),aU.of_map m _,aU.of_map m _⟩
  simpa [execOp,D]using this
 case h_15 t D=>
  refine⟨_,_,h,λc ρ w e m C=>?_⟩
  obtain⟨hx,ag⟩:=C.new (.map #[] 0) 0 (.map []) λw' ap=>⟨_,_,[],0,rfl,by simpa using ap,r9.mk rfl zH zH,λ_=>rfl⟩
  refine⟨.map (M w.heap.size),_,_,by simp[execOp,D,Instr.makeMap],hx,ag,by simp only[VR];exact⟨_,_,Env.cP _ _ _,rfl⟩,mu.push _ _⟩
 case h_16 t l cc D=>
  obtain⟨g,H',E,F⟩:=xK hX hI h
  exact⟨g,H',E,λc ρ w e m C=>by simpa [execOp,D]using(F c ρ w (e l) (e cc) (m l) (m cc) C).next⟩
 case h_17 t x lo hi mx D=>
  obtain⟨g,E,F⟩:=yi hX hI H h
  refine⟨g,H,E,λc ρ w e m C=>?_⟩
  obtain⟨u,L,Q⟩:=F c ρ w (e x) (lo.map e) (hi.map e) (mx.map e) (m x) (kW m lo) (kW m hi) (kW m mx) C
  simpa [execOp,D]using(fx.same L C Q).next
 case h_18 t x f D=>
  obtain⟨g,E,F⟩:=xI hX hI H h
  exact⟨g,H,E,λc ρ w e m C=>by simpa [execOp,D]using lN F (m x) C⟩
 case h_19 t x f D=>
  obtain⟨g,E,F⟩:=HI hX hI H h
  exact⟨g,H,E,λc ρ w e m C=>by simpa [execOp,D]using lN F (m x) C⟩
 case h_20 t x i D=>
  obtain⟨g,E,F⟩:=xJ hX hI H (vw hX h)
  exact⟨g,H,E,λc ρ w e m C=>by simpa [execOp,D]using nr F (m x) (m i) C⟩
 case h_21 t x i D=>
  obtain⟨g,E,F⟩:=HJ hX hI H h
  exact⟨g,H,E,λc ρ w e m C=>by simpa [execOp,D]using nr F (m x) (m i) C⟩
 case h_22 t x i ok D=>
  obtain⟨g,E,F⟩:=tH hX hI h
  exact⟨g,H,E,λc ρ w e m C=>by simpa [execOp,D]using nr F (m x) (m i) C⟩
 case h_23 x i D=>
  split at h
  ·rename_i vs hx
   split at h
   ·rename_i a ha
    refine⟨_,_,h,λc ρ w e m C=>?_⟩
    have E:=m x
    rw[hx]at E
    simp only[VR]at E
    obtain⟨us,F,L⟩:=E
    obtain⟨u,Q,h5⟩:=L.get i ha
    have:iO P (do pure (.value (<-Instr.extract (e x) i))) c ρ w a H:=(fx.same (v:=u) (by simp[Instr.extract,F,Q]) C h5).next
    simpa [execOp,D]using this
   ·exact zR
  ·exact zR
 case h_24 args S D=>
  split at h
  ·rename_i x t hx ht
   have ha:args= #[x]:=by apply k_;simpa using hx
   have a6:S= #[t]:=by apply k_;simpa using ht
   subst ha a6
   obtain⟨g,E,F⟩:=Ga hX hI h #[t] rfl o.type
   refine⟨g,H,E,λc ρ w e m C=>?_⟩
   have:=lN F (m x) C
   simpa [execOp,D,resolve,invoke,builtin]using this
  ·exact zR
 case h_25 args S D=>
  split at h
  ·rename_i a ha
   refine⟨_,_,h,λc ρ w e m C=>?_⟩
   have hm:∃v,(Builtin.min_ S o.type (args.map e)).run P w= .ok v w/\VR ρ a v:=by
    have hl:(args.map e).toList=args.toList.map e:=zA
    have G:=aU.of_map m args.toList
    unfold Builtin.min_
    rw[hl]
    generalize args.toList.map ev=as at ha G
    generalize args.toList.map e=vs at G
    unfold uJ at ha
    split at ha
    ·rename_i k x rest
     simp only[aU]at G
     obtain⟨u,us,rfl,E,F⟩:=G
     simp only[VR]at E
     subst E
     simpa using sy (mx:=false) w ha F
    ·cases ha
   obtain⟨v,E,F⟩:=hm
   have:iO P (do pure (.value (<-Builtin.min_ S o.type (args.map e)))) c ρ w a H:=(fx.same E C F).next
   simpa [execOp,D,resolve,invoke,builtin]using this
  ·exact zR
 case h_26 args S D=>
  split at h
  ·rename_i a ha
   refine⟨_,_,h,λc ρ w e m C=>?_⟩
   have hm:∃v,(Builtin.max_ S o.type (args.map e)).run P w= .ok v w/\VR ρ a v:=by
    have hl:(args.map e).toList=args.toList.map e:=zA
    have G:=aU.of_map m args.toList
    unfold Builtin.max_
    rw[hl]
    generalize args.toList.map ev=as at ha G
    generalize args.toList.map e=vs at G
    unfold uJ at ha
    split at ha
    ·rename_i k x rest
     simp only[aU]at G
     obtain⟨u,us,rfl,E,F⟩:=G
     simp only[VR]at E
     subst E
     simpa using sy (mx:=true) w ha F
    ·cases ha
   obtain⟨v,E,F⟩:=hm
   have:iO P (do pure (.value (<-Builtin.max_ S o.type (args.map e)))) c ρ w a H:=(fx.same E C F).next
   simpa [execOp,D,resolve,invoke,builtin]using this
  ·exact zR
 case h_27=>exact zR
end
end
section
structure fD (r:Nat) (w w':World):Prop where
 other:∀k,k≠r->w'.heap[k]? =w.heap[k]?
 size:w'.heap.size=w.heap.size
 os:w'.os=w.os
 output:w'.output=w.output
 tape:w'.tape=w.tape
theorem fD.refl(r:Nat)(w:World):fD r w w:=⟨λ_ _=>rfl,rfl,rfl,rfl,rfl⟩
theorem fD.trans{r:Nat}{a b c:World}(h:fD r a b)(k:fD r b c):fD r a c :=
 ⟨λi hi=>(k.other i hi).trans (h.other i hi),k.size.trans h.size,k.os.trans h.os,k.output.trans h.output,k.tape.trans h.tape⟩
theorem PL(w:World)(r o:Nat)(v:Value):fD r w (w.setCell ⟨r,o,z⟩ v):=
 ⟨λk a=>by simp only[World.setCell,G_];rw[if_neg (λe=>a e.symm)],by simp[World.setCell],rfl,rfl,rfl⟩
theorem jf{P:Program}{r o:Nat}:∀(vs:List Value)(i:Nat)(w:World)(a:List Value)(el:TypeId)(fr:Nat×Nat),w.heap[r]? =M (.cells a.toArray el fr)->o+i+vs.length<=a.length->
  (∀q,q<a.length->¬ (fr.1<=q/\q<fr.2))->(∀v∈vs,v.oneCell'=true)->
  ∃w',(storeCells ⟨r,o,z⟩ vs i).run P w= .ok () w'/\w'.heap[r]? =M (.cells (a.take (o+i)++vs++a.drop (o+i+vs.length)).toArray el fr)/\fD r w w'
 |[],i,w,a,el,fr,h,_,_,_=>⟨w,by simp[storeCells],by simpa using h,fD.refl r w⟩
 |v::vs,i,w,a,el,fr,h,hl,d,e=>by
  simp only[List.length_cons]at hl
  have b:o+i<a.length:=O
  have f:w.cell? ⟨r,o+i,z⟩=M a[o+i]:=by
   simp only[World.cell?,h,y_,kH,if_false]
   rw[I_,mo b]
  have c:w.frozen? ⟨r,o+i,z⟩=false:=by
   obtain⟨lo,hi⟩:=fr
   have g:=d (o+i) b
   simp only[World.frozen?,h]
   simp only[Bool.and_eq_false_iff,iK]
   simp only at g
   omega
  have j:(w.setCell ⟨r,o+i,z⟩ v).heap[r]? =M (.cells (a.set (o+i) v).toArray el fr):=by
   simp only[World.setCell,G_,if_true,h,Q_,y_,kH,if_false,List.setIfInBounds_toArray]
  obtain⟨w',k,l,m⟩:=jf (P:=P) (r:=r) (o:=o) vs (i+1) _ (a.set (o+i) v) el fr j zJ (by simpa using d) (λu n=>e u (List.mem_cons_of_mem _ n))
  refine⟨w',?_,?_,(PL w r (o+i) v).trans m⟩
  ·simp only[storeCells,Sem.run_bind,addr_add]
   rw[run_store P w _ v _ (e v List.mem_cons_self)]
   simp only[f,c,kH,if_false,Result.andThen_ok]
   exact k
  ·rw[l]
   congr 2
   have a1:o+(i+1)=o+i+1:=O
   rw[a1,List.take_set,List.drop_set_of_lt (O:o+i<o+i+1+vs.length),List.take_succ_eq_append_getElem b,List.set_append_right _ _ zJ]
   simp[List.length_take,W_ (Nat.le_of_lt b)]
   congr 1
   omega
def Dt(b:Bool):Nat->List AV->List AV->Option (List AV)
 |_,[],cs=>M cs
 |0,.int .i64 x::xs,.int .i64 y::cs=>match Dt b 0 xs cs with|some l=>M (.int .i64 (bif b then x else y)::l)|none=>z
 |0,.str x::xs,.str y::cs=>match Dt b 0 xs cs with|some l=>M (.str (bif b then x else y)::l)|none=>z
 |j+1,x::xs,c::cs=>match Dt b j (x::xs) cs with|some l=>M (c::l)|none=>z
 |_,_,_=>z
theorem OM(b:Bool)(j:Nat)(a cs l:List AV):Dt b j a cs=M l->l=bif b then cs.take j++a++cs.drop (j+a.length)else cs:=by
 fun_induction Dt b j a cs generalizing l<;>intro h<;>first
  |(cases h;done)
  |(cases h;cases b<;>simp;done)
  |(rename_i c d;cases h;have:=d _ c;cases b<;>simp_all;done)
  |(rename_i c d;cases h;have:=d _ c;cases b<;>simp_all;rw[Nat.add_right_comm,N_])
def DX(i k j:Nat)(a b c:List AV):List AV:=match Dt (i==k) j a c with
 |some l=>l
 |none=>bif i==k then b.take j++a++b.drop (j+a.length)else c
theorem HQ{f:Nat->List AV}(i k j:Nat)(a:List AV):DX i k j a (f k) (f i)=bif i==k then(f k).take j++a++(f k).drop (j+a.length)else f i:=by
 unfold DX
 split
 ·rename_i l hl
  rw[OM _ _ _ _ _ hl]
  by_cases e:i=k
  ·subst e;rfl
  ·have:(i==k)=false:=by simpa using e
   rw[this];rfl
 ·rfl
def ai.Pk(b:ai)(k e j:Nat)(c:List AV):Option (Bool×ai):=
 match b with
 | .cells cs a=>bif a.w then M (f_ (k*e+j+c.length<=cs.length),.cells (cs.take (k*e+j)++c++cs.drop (k*e+j+c.length)) a)else z
 | .rows m d f a=>bif a.w then(if e=d/\j+c.length<=d then M (f_ (k<m),.rows m d (λi=>DX i k j c (f k) (f i)) a)else z)else z
 |_=>z
def ai.put(b:ai)(k e j:Nat)(a:List AV):Option (Bool×ai):=b.un.Pk k e j a
theorem DY{n e:Nat}{f:Nat->List AV}(h:∀i,i<n->(f i).length=e){k j:Nat}(o:k<n){a:List AV}(p:j+a.length<=e):
  rowsOf n (λi=>bif i==k then(f k).take j++a++(f k).drop (j+a.length)else f i)=(rowsOf n f).take (k*e+j)++a++(rowsOf n f).drop (k*e+j+a.length):=by
 induction n with
 |zero=>omega
 |succ n d=>
  have hl:=bE (n:=n) (e:=e) (f:=f) (λi hi=>h i O)
  rw[dl,dl]
  by_cases b:k<n
  ·have g:k*e+e<=n*e:=by
    have:=a_ e (O:k+1<=n)
    rw[l_]at this;exact this
   rw[d (λi hi=>h i O) b]
   have:(n==k)=false:=by simp;omega
   rw[this,cond_false,c_ O,j_ O]
   simp only[d_]
  ·have b:k=n:=by omega
   subst b
   have c:rowsOf k (λi=>bif i==k then(f k).take j++a++(f k).drop (j+a.length)else f i)=rowsOf k f:=by
    unfold rowsOf
    rw[q_,q_]
    congr 1
    apply O_
    intro i hi
    have hi:=List.mem_range.1 hi
    have:(i==k)=false:=by simp;omega
    rw[this,cond_false]
   rw[c]
   simp only[BEq.rfl,cond_true]
   rw[List.take_append,S_,hl]
   have l:k*e+j-k*e=j:=O
   have m:k*e+j+a.length-k*e=j+a.length:=O
   rw[l,m,h_ (O:(rowsOf k f).length<=k*e+j),r_ (O:(rowsOf k f).length<=k*e+j+a.length)]
   simp
theorem aJ.store{ρ:Env}{P:Program}{w:World}{r N:Nat}{cs:List AV}{rw:Access}(h:aJ ρ w (M (r,N)) cs rw)(c:rw.w=true){o:Nat}{d:List AV}{us:List Value}(hx:aU ρ d us)(j:∀u∈us,u.oneCell'=true)(hl:o+d.length<=cs.length):
  ∃w',(storeCells ⟨r,o,z⟩ us).run P w= .ok () w'/\fD r w w'/\aJ ρ w' (M (r,N)) (cs.take o++d++cs.drop (o+d.length)) rw:=by
 rcases h with⟨_,t⟩|⟨b,F,vs,rest,el,fr,y,C,l,f,m,q,G⟩
 ·cases t
 ·cases y
  have s:=f.length_eq
  have i:=hx.length_eq
  obtain⟨w',f1,D,E⟩:=jf (P:=P) (o:=o) us 0 w (vs++rest) el fr C zJ (by rw[l];exact m.w c) j
  refine⟨w',f1,E,.inr ⟨_,_,vs.take o++us++vs.drop (o+us.length),rest,el,fr,rfl,?_,?_,?_,m,λv a=>?_,λe=>by rw[e]at c;cases c⟩⟩
  ·rw[D]
   congr 2
   simp only[s_]
   rw[c_ O,j_ O]
   simp
  ·simp at l⊢;omega
  ·rw[i]
   exact((f.take o).append hx).append (f.drop _)
  ·simp only[List.mem_append]at a
   rcases a with(a|a)|a
   ·exact q _ (K_ a)
   ·exact j _ a
   ·exact q _ (L_ a)
section
variable {R:Type} {X:RI R} {sem:R->Prop} (hX:X.Ok sem) {I:ba} {P:Program} (hI:I.Ok P)
def DZ(X:RI R)(I:ba)(t:TypeId)(p v:AV)(H:AH)(K:AH->R):R :=
 match p,v.cells?,I.size t with
 | .ptr l k e j,M xs,M n=>
  if xs.length=n/\xs.all e?=true then
   match(H.get l).put k e j xs with
   |some (ok,b)=>X.ak ok (K (H.set l b))
   |none=>X.fail
  else X.fail
 |_,_,_=>X.fail
theorem ai.Pm{ρ:Env}{P:Program}{w:World}{r N:Nat}{b q:ai}{k e j:Nat}{l:List AV}{us:List Value}(h:bp ρ w (M (r,N)) b)(c:b.Pk k e j l=M (true,q))(hx:aU ρ l us)(s:l.all e?=true):
  b.rw=true/\∃w',(storeCells ⟨r,k*e+j,z⟩ us).run P w= .ok () w'/\fD r w w'/\bp ρ w' (M (r,N)) q:=by
 unfold ai.Pk at c
 simp only[HQ]at c
 split at c
 ·rename_i cs a
  cases ha:a.w with
  |false=>rw[ha]at c;cases c
  |true=>
  rw[ha]at c
  simp only[cond_true,fE,Prod.mk.injEq,bn]at c
  obtain⟨hl,rfl⟩:=c
  exact⟨ha,aJ.store h ha hx (aU.Kl hx s) hl⟩
 ·rename_i m F f a
  cases ha:a.w with
  |false=>rw[ha]at c;cases c
  |true=>
  rw[ha,cond_true]at c
  split at c
  ·rename_i v
   obtain⟨rfl,y⟩:=v
   simp only[fE,Prod.mk.injEq,bn]at c
   obtain⟨t,rfl⟩:=c
   have C:k*e+e<=m*e:=by
    have:=a_ e (O:k+1<=m)
    rw[l_]at this;exact this
   have u:=bE h.1
   obtain⟨w',f1,D,E⟩:=aJ.store (P:=P) h.2 ha (o:=k*e+j) hx (aU.Kl hx s) O
   refine⟨ha,w',f1,D,λi hi=>?_,?_⟩
   ·by_cases d:i=k
    ·subst d
     simp[h.1 i t];omega
    ·have:(i==k)=false:=by simp[d]
     simp only[this,cond_false]
     exact h.1 i hi
   ·rw[DY h.1 t y]
    exact E
  ·cases c
 ·cases c
theorem ai.Te{ρ:Env}{P:Program}{w:World}{r N:Nat}{b c:ai}{k e j:Nat}{a:List AV}{us:List Value}(h:bp ρ w (M (r,N)) b)(d:b.put k e j a=M (true,c))(hx:aU ρ a us)(f:a.all e?=true):
  b.rw=true/\∃w',(storeCells ⟨r,k*e+j,z⟩ us).run P w= .ok () w'/\fD r w w'/\bp ρ w' (M (r,N)) c:=by
 rw[<-ai.Kk]
 exact ai.Pm h.un d hx f
include hX hI in
theorem HT{t:TypeId}{p v:AV}{H:AH}{K:AH->R}(h:sem (DZ X I t p v H K)):
  ∃H',sem (K H')/\∀c ρ w q o,VR ρ p q->VR ρ v o->Rel c ρ H w->∃w',(Instr.storeAt t q o).run P w= .ok () w'/\Rel c ρ H' w':=by
 unfold DZ at h
 split at h
 ·rename_i l k e j J n D hn
  split at h
  ·rename_i d
   obtain⟨f,g⟩:=d
   split at h
   ·rename_i ok b i
    obtain⟨rfl,E⟩:=hX.ak _ _ h
    refine⟨_,E,λc ρ w q o x F y=>?_⟩
    simp only[VR]at x
    obtain⟨r,N,C,rfl⟩:=x
    have hx:=VR.cells F D
    have a:=y.dF l
    rw[C]at a
    obtain⟨s,w',f1,m,G⟩:=ai.Te (P:=P) a i hx g
    have u:o.cells.size=n:=by rw[<-M_,<-hx.length_eq,f]
    refine⟨w',?_,y.fC b s C m.other m.size m.os m.output m.tape G⟩
    simp only[Instr.storeAt,Instr.sureAddr,storeVar,Sem.run_bind,Sem.run_pure,Result.andThen_ok,hI.ca w hn,u,ne_eq,not_true,if_false]
    exact f1
   ·exact zR
  ·exact zR
 ·exact zR
end
end
def fF(H:AH)(e:Nat):AV->Option (Bool×Nat×(Nat->List AV)×Bool)
 | .slice l base k len _ a=>
  if e=a/\0<e then
   match(H.get l).un with
   | .cells cs _=>M (f_ (base+k*e+len*e<=cs.length),len,λi=>(cs.drop (base+k*e+i*e)).take e,true)
   | .rows m b f _=>if b=e/\base=0 then M (f_ (k+len<=m),len,λi=>f (k+i),false)else z
   |_=>z
  else z
 | .own l len a=>
  if e=a/\0<e then
   match(H.get l).un with
   | .cells cs _=>M (f_ (len*e<=cs.length),len,λi=>(cs.drop (i*e)).take e,true)
   | .rows m b f _=>if b=e then M (f_ (len<=m),len,f,false)else z
   |_=>z
  else z
 | .aw=>if 0<e then M (true,0,λ_=>[],true)else z
 | .ab len a f=>if e=a/\0<e then M (true,len,f,false)else z
 | .str s=>if e=1 then M (true,s.length,λi=>[.int .u8 (s.getD i 0).toNat],false)else z
 |_=>z
def gY{n:Nat}{f g:Nat->List AV}(h:∀i,i<n->f i=g i):rowsOf n f=rowsOf n g:=by
 unfold rowsOf
 rw[q_,q_]
 congr 1
 exact O_ λi hi=>h i (List.mem_range.1 hi)
def iP{cs:List AV}{o e:Nat}(a:0<e):∀{n:Nat},o+n*e<=cs.length->rowsOf n (λi=>(cs.drop (o+i*e)).take e)=(cs.drop o).take (n*e)
 |0,_=>by simp[rowsOf]
 |n+1,h=>by
  rw[l_]at h
  rw[dl,iP a O,l_,List.take_add,List.drop_drop]
def ns{m:Nat}{f:Nat->List AV}:∀{n k:Nat},k+n<=m->∃a b,rowsOf m f=a++rowsOf n (λi=>f (k+i))++b/\a=rowsOf k f
 |n,k,h=>by
  obtain⟨d,rfl⟩:∃d,m=k+n+d:=⟨m-(k+n),O⟩
  refine⟨rowsOf k f,rowsOf d (λi=>f (k+n+i)),?_,rfl⟩
  have add:∀a b (g:Nat->List AV),rowsOf (a+b) g=rowsOf a g++rowsOf b (λi=>g (a+i)):=by
   intro a b g
   induction b with
   |zero=>simp[rowsOf]
   |succ b c=>rw[<-Z_,dl,c,dl,d_]
  rw[add (k+n) d f,add k n f]
def jH(a b:Nat)(g:Nat->List AV):rowsOf (a+b) g=rowsOf a g++rowsOf b (λi=>g (a+i)):=by
 induction b with
 |zero=>simp[rowsOf]
 |succ b c=>rw[<-Z_,dl,c,dl,d_]
def aJ.read{ρ:Env}{P:Program}{w:World}{r N:Nat}{cs:List AV}{rw:Access}(h:aJ ρ w (M (r,N)) cs rw){o n:Nat}(hl:o+n<=cs.length):
  o+n<=N/\∃us:List Value,aU ρ ((cs.drop o).take n) us/\us.length=n/\(∀v∈us,v.oneCell'=true)/\∀d,(loadCells ⟨r,o,z⟩ n).run P {w with drawn:=d}= .ok us.toArray {w with drawn:=d}:=by
 rcases h with⟨_,j⟩|⟨b,t,vs,rest,el,fr,l,m,q,c,u,s,y⟩
 ·cases j
 ·cases l
  have f:=c.length_eq
  simp only[n_]at q
  refine⟨O,(vs.drop o).take n,(c.drop o).take n,by simp;omega,λv a=>s v (L_ (K_ a)),λd=>?_⟩
  have hn:((vs.drop o).take n).length=n:=by simp;omega
  have key:=jF (P:=P) (w:={w with drawn:=d}) (us:=(vs.drop o).take n) (r:=r) (o:=o) λi v a=>by
   have hi:i<n:=by
    have:=(List.getElem?_eq_some_iff.1 a).1
    omega
   rw[E_ hi,P_]at a
   have:({w with drawn:=d}:World).heap[r]? =M (.cells (vs++rest).toArray el fr):=m
   simp only[World.cell?,this,y_,kH,if_false,I_]
   rw[List.getElem?_append_left O]
   exact a
  rw[hn]at key
  exact key
def j2{P:Program}{H:AH}{e:Nat}{x:AV}{len:Nat}{f:Nat->List AV}{cl:Bool}(h:fF H e x=M (true,len,f,cl)){c:fw}{ρ:Env}{w:World}{v:Value}(u:VR ρ x v)(hr:Rel c ρ H w):
  (∀i,i<len->(f i).length=e)/\(Builtin.lenOf v).run P w= .ok len w/\∀n,n<=len->∃us:List Value,aU ρ (rowsOf n f) us/\us.length=n*e/\(∀v∈us,v.oneCell'=true)/\∀d,(Builtin.firstCells e n v).run P {w with drawn:=d}= .ok us.toArray {w with drawn:=d}:=by
 cases x with
 |slice l base k p cap e'=>
  simp only[fF]at h
  split at h
  ·rename_i S
   obtain⟨rfl,G⟩:=S
   simp only[VR]at u
   obtain⟨b,N,cc,a,X,rfl,hl,y,_⟩:=u
   have j:=(hr.dF l).un
   rw[X]at j
   split at h
   ·rename_i cs rw C
    rw[C]at j
    simp only[fE,Prod.mk.injEq,bn]at h
    obtain⟨T,rfl,rfl,rfl⟩:=h
    refine⟨λi hi=>?_,by simp[Builtin.lenOf],λn hn=>?_⟩
    ·have:i*e+e<=p*e:=by
      have:=a_ e (O:i+1<=p)
      rw[l_]at this;exact this
     simp;omega
    ·by_cases J:n=0
     ·subst J
      refine⟨[],by simp[rowsOf,aU],zA,zA,λd=>?_⟩
      simp[Builtin.firstCells,loadCells,loadCellsFrom]
     ·obtain⟨rfl,_⟩:=y O
      have a7:n*e<=p*e:=a_ e hn
      obtain⟨_,us,I,K,D,U⟩:=aJ.read (P:=P) j (o:=base+k*e) (n:=n*e) O
      exact⟨us,by rw[iP G O];exact I,K,D,λd=>by simpa [Builtin.firstCells]using U d⟩
   ·rename_i m L g rw C
    rw[C]at j
    split at h
    ·rename_i hc
     obtain⟨rfl,rfl⟩:=hc
     simp only[fE,Prod.mk.injEq,bn]at h
     obtain⟨T,rfl,rfl,rfl⟩:=h
     refine⟨λi hi=>j.1 _ O,by simp[Builtin.lenOf],λn hn=>?_⟩
     by_cases J:n=0
     ·subst J
      refine⟨[],by simp[rowsOf,aU],zA,zA,λd=>?_⟩
      simp[Builtin.firstCells,loadCells,loadCellsFrom]
     ·obtain⟨rfl,_⟩:=y O
      obtain⟨a,t,R,e3⟩:=ns (m:=m) (f:=g) (n:=n) (k:=k) O
      have Y:a.length=k*L:=by rw[e3];exact bE λi hi=>j.1 i O
      have V:(rowsOf n λi=>g (k+i)).length=n*L:=bE λi hi=>j.1 _ O
      have Z:((rowsOf m g).drop (k*L)).take (n*L)=rowsOf n (λi=>g (k+i)):=by
       rw[R,d_,j_ O,r_ O,t_,c_ O,h_ O]
      obtain⟨_,us,I,K,D,U⟩:=aJ.read (P:=P) j.2 (o:=k*L) (n:=n*L) (by rw[R];simp;omega)
      rw[Z]at I
      exact⟨us,I,K,D,λd=>by simpa [Builtin.firstCells]using U d⟩
    ·cases h
   ·cases h
  ·cases h
 |own l p e'=>
  simp only[fF]at h
  split at h
  ·rename_i S
   obtain⟨rfl,G⟩:=S
   simp only[VR]at u
   have j:=(hr.dF l).un
   split at h
   ·rename_i cs rw C
    rw[C]at j
    simp only[fE,Prod.mk.injEq,bn]at h
    obtain⟨T,rfl,rfl,rfl⟩:=h
    refine⟨λi hi=>?_,?_,λn hn=>?_⟩
    ·have:i*e+e<=p*e:=by
      have:=a_ e (O:i+1<=p)
      rw[l_]at this;exact this
     simp;omega
    ·rcases u with⟨rfl,rfl⟩|⟨_,_,_,_,rfl,_⟩<;>simp[Builtin.lenOf]
    ·rcases u with⟨rfl,rfl⟩|⟨b,N,cc,X,rfl,hl,y⟩
     ·have:n=0:=by omega
      subst this
      exact⟨[],by simp[rowsOf,aU],zA,zA,λd=>by simp[Builtin.firstCells]⟩
     ·rw[X]at j
      have a7:n*e<=p*e:=a_ e hn
      obtain⟨_,us,I,K,D,U⟩:=aJ.read (P:=P) j (o:=0) (n:=n*e) O
      refine⟨us,?_,K,D,λd=>by simpa [Builtin.firstCells]using U d⟩
      have:=iP (cs:=cs) (o:=0) G (n:=n) O
      simp only[b_]at this
      rw[this];exact I
   ·rename_i m L g rw C
    rw[C]at j
    split at h
    ·rename_i hc
     subst hc
     simp only[fE,Prod.mk.injEq,bn]at h
     obtain⟨T,rfl,rfl,rfl⟩:=h
     refine⟨λi hi=>j.1 _ O,?_,λn hn=>?_⟩
     ·rcases u with⟨rfl,rfl⟩|⟨_,_,_,_,rfl,_⟩<;>simp[Builtin.lenOf]
     ·rcases u with⟨rfl,rfl⟩|⟨b,N,cc,X,rfl,hl,y⟩
      ·have:n=0:=by omega
       subst this
       exact⟨[],by simp[rowsOf,aU],zA,zA,λd=>by simp[Builtin.firstCells]⟩
      ·rw[X]at j
       obtain⟨a,t,R,e3⟩:=ns (m:=m) (f:=g) (n:=n) (k:=0) O
       have Y:a=[]:=by rw[e3];rfl
       subst Y
       simp only[t_,b_]at R
       replace R:rowsOf m g=rowsOf n g++t:=R
       have V:(rowsOf n g).length=n*L:=bE λi hi=>j.1 _ O
       obtain⟨_,us,I,K,D,U⟩:=aJ.read (P:=P) j.2 (o:=0) (n:=n*L) (by rw[R];simp;omega)
       refine⟨us,?_,K,D,λd=>by simpa [Builtin.firstCells]using U d⟩
       rw[w_,R,c_ O,h_ O]at I
       exact I
    ·cases h
   ·cases h
  ·cases h
 |ab p L g=>
  simp only[fF]at h
  split at h
  ·rename_i S
   obtain⟨rfl,G⟩:=S
   simp only[fE,Prod.mk.injEq,true_and]at h
   obtain⟨rfl,rfl,rfl⟩:=h
   simp only[VR]at u
   refine⟨λi hi=>?_,?_,λn hn=>?_⟩
   ·rcases u with⟨rfl,_⟩|⟨b,q,cc,a,Q,rfl,hl,y⟩
    ·omega
    ·obtain⟨rfl,ad,E⟩:=y O
     rw[(E i hi).2.length_eq];exact(E i hi).1
   ·rcases u with⟨rfl,rfl⟩|⟨_,_,_,_,_,rfl,_⟩<;>simp[Builtin.lenOf]
   ·by_cases J:n=0
    ·subst J
     refine⟨[],by simp[rowsOf,aU],zA,zA,λd=>?_⟩
     rcases u with⟨rfl,rfl⟩|⟨_,_,_,_,_,rfl,_⟩<;>simp[Builtin.firstCells,loadCells,loadCellsFrom]
    ·rcases u with⟨rfl,_⟩|⟨b,q,cc,a,Q,rfl,hl,y⟩
     ·omega
     obtain⟨rfl,ad,E⟩:=y O
     have W:=ad.part (λi hi=>(E i hi).1) (k:=0) (m:=n) O
     simp only[u_,s_,b_]at W
     have ag:∀i,i<n->(g i).length=e:=λi hi=>by rw[(E i O).2.length_eq];exact(E i O).1
     have ap:=aU.flat (n:=n) λi hi=>aU.ext (Ext.qU ρ) _ _ (E i O).2
     have V:(rowsOf n g).length=n*e:=bE ag
     have a6:((B_ n).flatMap Q).length=n*e:=by rw[<-ap.length_eq];exact V
     refine⟨(B_ n).flatMap Q,ap,a6,W.1,λd=>?_⟩
     have key:=jF (P:=P) (w:={w with drawn:=d}) (us:=(B_ n).flatMap Q) (r:=b) (o:=q) λi v u=>qR.cell hr W i v u
     rw[a6]at key
     simpa [Builtin.firstCells]using key
  ·cases h
 |aw=>
  simp only[fF]at h
  split at h
  ·simp only[fE,Prod.mk.injEq,true_and]at h
   obtain⟨rfl,rfl,rfl⟩:=h
   simp only[VR]at u
   subst u
   refine⟨λi hi=>O,by simp[Builtin.lenOf],λn hn=>⟨[],?_,?_,zA,λd=>?_⟩⟩
   ·have:n=0:=by omega
    subst this;simp[rowsOf,aU]
   ·have:n=0:=by omega
    simp[this]
   ·simp[Builtin.firstCells]
  ·cases h
 |str s=>
  simp only[fF]at h
  split at h
  ·rename_i S
   subst S
   simp only[fE,Prod.mk.injEq,true_and]at h
   obtain⟨rfl,rfl,rfl⟩:=h
   simp only[VR]at u
   subst u
   have F:∀i,i<s.length->((λi=>[J_ .u8 (s.getD i 0).toNat]) i).length=1:=λi _=>rfl
   refine⟨F,by simp[Builtin.lenOf,ByteArray.size],λn hn=>⟨(s.take n).map λb=>c? .u8 b.toNat,?_,by simp;omega,λv u=>by(simp only[List.mem_map]at u;obtain⟨_,_,rfl⟩:=u;rfl),λd=>?_⟩⟩
   ·refine aU.vj (by rw[bE (e:=1) (λi hi=>F i O)];simp;omega) λi a v I K=>?_
    have hi:i<n:=by
     have:=(List.getElem?_eq_some_iff.1 K).1
     simp at this;omega
    rw[qm (λi hi=>F i O) hi A]at I
    cases I
    simp only[List.getElem?_map,E_ hi,mo (O:i<s.length),Q_,fE]at K
    subst K
    simp[VR,C_,mo (O:i<s.length)]
   ·simp only[Builtin.firstCells,Sem.run_pure]
    congr 1
    apply k_
    simp[List.extract_eq_take_drop]
  ·cases h
 |_=>simp[fF]at h
section
theorem Rel.Vs{c ρ H w w'}(h:Rel c ρ H w){l r N}(b)(o:(H.get l).rw=true)(v:ρ l=M (r,N))(ht:fD r w w')
  (L:bp (ρ.put H.n (r,N)) w' (M (r,N)) b):Ext ρ (ρ.put H.n (r,N))/\Rel c (ρ.put H.n (r,N)) ((H.set l .dead).new b) w':=by
 have hn:ρ H.n=z:=h.top _ (dw _)
 have hx:=Env.nk (r,N) hn
 have P:l≠H.n:=λe=>Y
 have m:∀i,i≠H.n->i≠l->((H.set l .dead).new b).get i=H.get i:=λi j s=>by
  rw[show H.n=(H.set l .dead).n from rfl]at j
  rw[F_ _ _ j,AH.bk _ _ (λe=>s e.symm)]
 have G:((H.set l .dead).new b).get H.n=b:=AH.nj (H.set l .dead) b
 have u:((H.set l .dead).new b).get l= .dead:=by
  rw[F_ _ _ zI]
  exact Y_ H .dead l
 have old:∀i,i≠H.n->i≠l->H.get i≠ .dead->∀y a,ρ i=M (y,a)->y≠r:=λi j s Q y a e I=>by
  subst I
  exact Q (h.sep l i y N a (λe=>s e.symm) o v e)
 refine⟨hx,⟨λi=>?_,λi C q a R D d j s=>?_,λi q a d j=>?_,λk K=>?_,?_,ht.os.trans h.os,ht.output.trans h.output,ht.tape.trans h.tape,λi hi=>?_,λg S=>?_,λi q a E j=>?_,λi hi=>?_,λi hi=>?_,λk vs e=>?_,λi q a d j=>?_,h.xw,h.qZ⟩⟩
 ·by_cases hi:i=H.n
  ·subst hi;rw[G,Env.cP];exact L
  ·rw[Env.ec _ _ hi]
   by_cases f:i=l
   ·subst f;rw[u];trivial
   ·rw[m i hi f]
    by_cases E:H.get i= .dead
    ·rw[E];trivial
    ·exact bp.world (λy a e=>ht.other y Y) ((h.dF i).ext hx)
 ·by_cases hi:i=H.n
  ·subst hi
   rw[Env.cP]at j;cases j
   have t:C≠H.n:=λe=>D e.symm
   rw[Env.ec _ _ t]at s
   grind
  ·rw[Env.ec _ _ hi]at j
   by_cases f:i=l
   ·subst f;rw[u]at d;cases d
   ·rw[m i hi f]at d
    have E:H.get i≠ .dead:=λe=>by rw[e]at d;cases d
    by_cases t:C=H.n
    ·subst t
     rw[Env.cP]at s;grind
    ·rw[Env.ec _ _ t]at s
     by_cases F:C=l
     grind
     ·rw[m C t F]
      exact h.sep i C q a R D d j s
 ·by_cases hi:i=H.n
  ·subst hi
   rw[Env.cP]at j;cases j
   exact h.gL l r N o v
  ·rw[Env.ec _ _ hi]at j
   by_cases f:i=l
   ·subst f;rw[u]at d;cases d
   ·rw[m i hi f]at d
    exact h.gL i q a d j
 ·obtain⟨j,s⟩:=h.gH k K
  refine⟨j,?_⟩
  rw[<-s]
  refine ht.other k λe=>?_
  subst e
  exact K.elim (h.gL l k N o v) (h.hid l k N (λe=>by rw[e]at o;cases o) v)
 ·rw[ht.size];exact h.size
 ·have J:H.n+1<=i:=hi
  rw[Env.ec _ _ O]
  exact h.top i O
 ·obtain⟨a,T⟩:=h.fp g S
  exact⟨a,hx _ _ T⟩
 ·by_cases hi:i=H.n
  ·subst hi
   rw[Env.cP]at j;cases j
   exact h.hid l r N (λe=>by rw[e]at o;cases o) v
  ·rw[Env.ec _ _ hi]at j
   by_cases f:i=l
   grind
   ·rw[m i hi f]at E
    exact h.hid i q a E j
 ·obtain⟨j,s⟩:=h.env i hi
  exact⟨by simp;omega,by rw[Env.ec _ _ O];exact s⟩
 ·have J:H.n+1<=i:=hi
  have:=h.oZ o
  rw[m i O O]
  exact h.low i O
 ·obtain⟨el,fr,U⟩:=h.qY k vs e
  refine⟨el,fr,(ht.other k λI=>?_).trans U⟩
  subst I
  have:=h.pV l k N o v
  rw[Env.S9,this]at e;cases e
 ·by_cases hi:i=H.n
  ·subst hi
   rw[Env.cP]at j;cases j
   exact h.pV l r N o v
  ·rw[Env.ec _ _ hi]at j
   by_cases f:i=l
   ·subst f;rw[u]at d;cases d
   ·rw[m i hi f]at d
    exact h.pV i q a d j
theorem PO{c ρ w}{H:AH}{l b}(hl:l<H.n)(h:Rel c ρ (H.new b) w):Rel c ρ ((H.set l .dead).new b) w:=by
 refine(h.kill l).congr A λi=>?_
 rw[AH.kI,AH.bH,AH.bH,AH.kI]
 by_cases h1:i=H.n
 ·have :¬ i=l:=by omega
  simp_all
 simp_all
section
variable {R:Type} {X:RI R} {sem:R->Prop} (hX:X.Ok sem) {I:ba} {P:Program} (hI:I.Ok P)
def jg(bo:Option (List UInt8))(n1 b d:Nat)(f1 c:Nat->List AV)(e:Bool)(a:Access):ai :=
 match bo with|some f=> .str f a|none=>bif e then .cells (rowsOf n1 f1++rowsOf b c) a else .rows (n1+b) d (λi=>bif e_ i n1 then f1 i else c (i-n1)) a
def ai.acc:ai->Access
 | .cells _ a=>a
 | .rows _ _ _ a=>a
 | .str _ a=>a
 | .dead=> .ro
 | .map es=>match dL es with|true=> .ro|false=> .wr
 |_=> .wr
theorem ai.Tf(b:ai):b.un.acc=b.acc:=by cases b<;>rfl
theorem ai.Vt(b:ai):b.acc.w=b.rw:=by
 cases b with
 |map es=>
  show(match dL es with|true=>Access.ro|false=>Access.wr).w=!dL es
  cases dL es<;>rfl
 |_=>rfl
def Access.meet(e:TypeId):Access->Access
 | .ty a=>bif H_ a e then .ty e else .wr
 |_=> .wr
theorem Access.uK{e}{a:Access}:a.meet e≠ .ro:=by
 unfold Access.meet
 grind
theorem Access.uL{e}{a:Access}{m}:a.meet e≠ .ex m:=by
 unfold Access.meet
 grind
theorem Access.uM{e b}{a:Access}(h:a.meet e= .ty b):e=b/\a= .ty e:=by
 unfold Access.meet at h
 split at h
 ·rename_i c
  cases d:H_ c e with
  |true=>
   simp_all
  |false=>rw[d]at h;cases h
 ·cases h
theorem pU.meet{a el e fr N}(h:pU a el fr N)(c:a.w=true):pU (a.meet e) el fr N :=
 ⟨λ_=>h.w c,λd b=>by
  obtain⟨rfl,rfl⟩:=Access.uM b
  exact h.ty _ A,λ_ b=>absurd b Access.uL⟩
theorem pU.fresh{a e N}(h:∀b,a= .ty b->e=b)(d:∀m,a≠ .ex m):pU a e (0,0) N:=⟨O,λb c=>h b c,ZD⟩
theorem xL(n1 a)(f1 f2):rowsOf (n1+a) (λi=>bif e_ i n1 then f1 i else f2 (i-n1))=rowsOf n1 f1++rowsOf a f2:=by
 rw[jH]
 congr 1
 ·exact gY λi hi=>by
   have:e_ i n1=true:=by rw[g_];exact hi
   rw[this];rfl
 ·exact gY λi hi=>by
   have:e_ (n1+i) n1=false:=by rw[i_];intro e;rw[g_]at e;omega
   grind
theorem yo{ρ w bo r N n1 b d f1 c j a}(l:∀i,i<n1->(f1 i).length=d)(m:∀i,i<b->(c i).length=d)
  (h:aJ ρ w (M (r,N)) (rowsOf n1 f1++rowsOf b c) a) (k:∀f,bo=M f->rowsOf n1 f1++rowsOf b c=byteCells f):bp ρ w (M (r,N)) (jg bo n1 b d f1 c j a):=by
 unfold jg
 cases bo with
 |some f=>show aJ _ _ _ _ _;grind
 |none=>
 cases j with
 |true=>exact h
 |false=>
  refine⟨λi hi=>?_,by rw[xL];exact h⟩
  by_cases g:i<n1
  ·have:e_ i n1=true:=by rw[g_];exact g
   grind
  ·have:e_ i n1=false:=by rw[i_];intro e;rw[g_]at e;omega
   grind
theorem tI{ρ w bo f f1 d e a}(c:∀b,bo=M b->rowsOf 0 f1++rowsOf 0 d=byteCells b):bp ρ w z (jg bo 0 0 f f1 d e a):=by
 unfold jg
 cases bo with
 |some b=>exact .inl ⟨(c b A).symm,rfl⟩
 |none=>
  cases e
  ·exact⟨O,.inl ⟨by simp[rowsOf],rfl⟩⟩
  ·exact .inl ⟨by simp[rowsOf],rfl⟩
def lg:AV->Option Nat
 | .own l _ _=>M l
 | .slice l 0 0 _ _ _=>M l
 |_=>z
def Kx:TypeDesc->Bool
 | .slice _| .string=>true
 |_=>false
def pf(X:RI R)(e:TypeId)(s:AV)(n a:Nat)(dF:Access->ai)(H:AH)(K:AV->AH->R):R :=
 match lg s with
 |some l=>match(H.get l).rw with
  |true=>K (.own H.n n a) ((H.set l .dead).new (dF ((H.get l).acc.meet e)))
  |false=>X.fail
 |none=>X.fail
def R9(H:AH):AV->Option (Bool×List UInt8)
 | .aw=>M (true,[])
 | .own l n 1=>match H.get l with
  | .str b _=>M (f_ (n=b.length),b)
  |_=>z
 | .slice l 0 0 n _ 1=>match H.get l with
  | .str b _=>M (f_ (n=b.length),b)
  |_=>z
 |_=>z
def rf(H:AH):AV->Option (Bool×List UInt8)
 | .aw=>M (true,[])
 | .str t=>M (true,t)
 | .own l n 1=>match H.get l with
  | .str b _=>M (f_ (n=b.length),b)
  | .cells cs _=>M ((cs.take n).all a?,(cs.take n).map U_)
  |_=>z
 | .slice l 0 k n _ 1=>match H.get l with
  | .str b _=>M (true,(b.drop k).take n)
  | .cells cs _=>M (((cs.drop k).take n).all a?,((cs.drop k).take n).map U_)
  |_=>z
 |_=>z
def dR(I:ba)(e:TypeId)(a:Nat)(H:AH)(s x:AV):Bool×Option (List UInt8):=
 match a,I.dI e with
 |1,M (.int .u8)=>match R9 H s,rf H x with
  |some (b,c),M (d,f)=>(b&&d,M (qk c f))
  |_,_=>(true,z)
 |_,_=>(true,z)
theorem rh{cs}(h:cs.all a? =true):byteCells (cs.map U_)=cs:=by
 induction cs with
 |nil=>rfl
 |cons a cs c=>
  simp only[List.all_cons,bf]at h
  have b:=c h.2
  simp only[byteCells,List.map_cons,List.map_map]at b⊢
  refine congr (congrArg _ ?_) b
  cases a with
  |int k n=>
   cases k<;>simp only[a?,kH,bf,bn,false_and]at h
   simp only[U_,AV.intOf]
   congr 1
   have:n.toNat<256:=O
   simp[UInt8.toNat_ofNat',Nat.mod_eq_of_lt this]
   omega
  |_=>simp[a?]at h
theorem ny{H:AH}{x:AV}{n:Nat}{f:Nat->List AV}{c:Bool}{b:List UInt8}(h:fF H 1 x=M (true,n,f,c))(k:rf H x=M (true,b)):rowsOf n f=byteCells b:=by
 have cut:∀(cs:List AV)(o m:Nat),o+m<=cs.length->rowsOf m (λi=>(cs.drop (o+i*1)).take 1)=(cs.drop o).take m:=λcs o m p=>by
  have:=iP (cs:=cs) (o:=o) (e:=1) (n:=m) O O
  grind
 unfold rf at k
 split at k
 ·cases k
  simp only[fF]at h
  rw[if_pos O]at h
  cases h;rfl
 ·cases k
  simp only[fF,if_true]at h
  simp only[fE,Prod.mk.injEq,true_and]at h
  obtain⟨rfl,rfl,rfl⟩:=h
  exact kJ _
 ·rename_i l m
  split at k
  ·rename_i g a d
   simp only[fE,Prod.mk.injEq,bn]at k
   obtain⟨rfl,rfl⟩:=k
   simp only[fF,d,ai.un]at h
   simp only[true_and,x_,if_true,fE,Prod.mk.injEq,bn]at h
   obtain⟨_,rfl,rfl,rfl⟩:=h
   exact kJ _
  ·rename_i cs a d
   simp only[fE,Prod.mk.injEq]at k
   obtain⟨k1,rfl⟩:=k
   simp only[fF,d,ai.un]at h
   simp only[true_and,x_,if_true,fE,Prod.mk.injEq,bn]at h
   obtain⟨hl,rfl,rfl,rfl⟩:=h
   have:=cut cs 0 m O
   simp only[b_,w_]at this
   rw[this,rh k1]
  ·cases k
 ·rename_i l kk m cap
  split at k
  ·rename_i g a d
   simp only[fE,Prod.mk.injEq,true_and]at k
   subst k
   simp only[fF,d,ai.un]at h
   simp only[and_self,x_,if_true,fE,Prod.mk.injEq,bn]at h
   obtain⟨hl,rfl,rfl,rfl⟩:=h
   have:∀n,kk+n<=g.length->rowsOf n (λi=>gx g (kk+i))=byteCells ((g.drop kk).take n):=by
    intro n
    induction n with
    |zero=>intro _;rfl
    |succ n j=>
     intro hn
     rw[dl,j O,List.take_add_one,P_,mo O]
     show _=List.map _ (_++_)
     rw[List.map_append]
     refine congr A ?_
     simp[gx,C_,mo (O:kk+n<g.length)]
   exact this _ hl
  ·rename_i cs a d
   simp only[fE,Prod.mk.injEq]at k
   obtain⟨k1,rfl⟩:=k
   simp only[fF,d,ai.un]at h
   simp only[true_and,x_,if_true,fE,Prod.mk.injEq,bn]at h
   obtain⟨hl,rfl,rfl,rfl⟩:=h
   have:=cut cs kk m O
   simp only[b_,Nat.mul_one]at this⊢
   rw[this,rh k1]
  ·cases k
 ·cases k
theorem D0{H x n f c b}(h:fF H 1 x=M (true,n,f,c))(k:R9 H x=M (true,b)):rowsOf n f=byteCells b:=by
 unfold R9 at k
 split at k
 ·exact ny h k
 ·split at k
  ·rename_i d
   exact ny h (by simp only[rf,d];exact k)
  ·cases k
 ·split at k
  ·rename_i m cap _ e a d
   refine ny h ?_
   simp only[fE,Prod.mk.injEq,bn]at k
   obtain⟨rfl,rfl⟩:=k
   simp only[rf,d,w_,List.take_length]
  ·cases k
 ·cases k
theorem byteCells_append(a b):byteCells (a++b)=byteCells a++byteCells b:=by simp[byteCells]
theorem Sa{I e a H s x n1 d f1 f g i}(j:fF H a s=M (true,n1,f1,g))(k:fF H a x=M (true,d,f,i))(h:(dR I e a H s x).1=true):
  ∀c,(dR I e a H s x).2=M c->rowsOf n1 f1++rowsOf d f=byteCells c:=by
 intro c b
 unfold dR at h b
 split at h
 ·rename_i l
  simp only[l]at b
  split at h
  ·rename_i o m p n k1 k2
   simp only[k1,k2,fE]at b
   simp only[bf]at h
   obtain⟨rfl,rfl⟩:=h
   rw[<-b]
   show _=byteCells (m++n)
   rw[byteCells_append,D0 j k1,ny k k2]
  grind
 grind
def Sb(X:RI R)(I:ba)(i j:TypeId)(s x:AV)(H:AH)(K:AV->AH->R):R :=
 match I.dI i,I.dI j with
 |some (.slice e),M m=>
  match I.size e,I.bytes e,(I.zero e).bind V_,(Kx m)with
  |some a,M d,M zs,true=>
   if zs.length=a then
   match fF H a s,fF H a x with
   |some (f,n1,f1,c1),M (g,c,f2,c2)=>
    X.ak (f&&g&&f_ (0<d)&&f_ ((n1+c)*d<=140737488355328)&&(dR I e a H s x).1)
     (match s with
      | .aw=>K (.own H.n c a) (H.new (jg (dR I e a H s x).2 n1 c a f1 f2 (c1&&c2) (.ty e)))
      | .slice l b k len (M h) es=>X.cond (f_ (c=0)) (λ_=>K (.slice l b k len (M h) es) H)
        (λ_=>X.cond (f_ (h=len)) (λ_=>K (.own H.n (n1+c) a) (H.new (jg (dR I e a H s x).2 n1 c a f1 f2 (c1&&c2) (.ty e)))) (λ_=>pf X e (.slice l b k len (M h) es) (n1+c) a (jg (dR I e a H s x).2 n1 c a f1 f2 (c1&&c2)) H K))
      | .slice l b k len z es=>X.cond (f_ (c=0)) (λ_=>K (.slice l b k len z es) H)
        (λ_=>pf X e (.slice l b k len z es) (n1+c) a (jg (dR I e a H s x).2 n1 c a f1 f2 (c1&&c2)) H K)
      |s=>pf X e s (n1+c) a (jg (dR I e a H s x).2 n1 c a f1 f2 (c1&&c2)) H K)
   |_,_=>X.fail
   else X.fail
  |_,_,_,_=>X.fail
 |_,_=>X.fail
include hI in
theorem ol{m q e:TypeId}{o:TypeDesc}{g j:Nat}{zs:List AV}(v:I.dI m=M (.slice e))(U:I.dI q=M o)(V:I.size e=M g)(W:I.bytes e=M j)(Q:(I.zero e).bind V_ =M zs)(D:zs.length=g)
  (X:(Kx o)=true) (h7:0<j) {n1 f:Nat} (Y:(n1+f)*j<=140737488355328) {c:Option Addr} {cap:Nat} {p:Value} {us vs:List Value} (w:World)
  (x:(Builtin.lenOf p).run P w= .ok f w) (R:∀d,(Builtin.firstCells g n1 (.slice c n1 cap)).run P {w with drawn:=d}= .ok us.toArray {w with drawn:=d}) (E:∀d,(Builtin.firstCells g f p).run P {w with drawn:=d}= .ok vs.toArray {w with drawn:=d}) (ty:TypeId):
  (cap<n1+f->∃(F:Nat)(rest:List Value),n1+f<=F/\rest.length=(F-(n1+f))*g/\(Builtin.append_ #[m,q] ty #[.slice c n1 cap,p]).run P w= .ok (.slice (M ⟨w.heap.size,0,z⟩) (n1+f) F) {w with drawn:=w.drawn+1,heap:=w.heap.push (.cells (us++vs++rest).toArray e)})/\
  (n1+f<=cap->(Builtin.append_ #[m,q] ty #[.slice c n1 cap,p]).run P w=
   ((match c with|some a=>storeCells (a.add (n1*g)) vs|none=>pure ():Sem Unit).run P w).andThen λ_ w'=> .ok (.slice c (n1+f) cap) w'):=by
 simp only[o_]at Q
 obtain⟨b,G,H⟩:=Q
 obtain⟨i,J,g1,g2,g3⟩:=hI.zero e b G
 obtain⟨i',g4,y⟩:=hI.size e g V
 obtain⟨ad,S,g7⟩:=hI.bytes e j W
 rw[g1]at g4 S
 cases g4
 cases S
 have k:=VR.cells (jZ ⟨λ_=>z,λ_=>z⟩ J b g3) H
 have K:J.cells.size=g:=by rw[<-M_,<-k.length_eq,D]
 have n:(Builtin.firstCells g f p).run P w= .ok vs.toArray w:=E w.drawn
 have C:P.underlying q=M o:=hI.dI q _ U
 have r:(∃L,o= .slice L)∨o= .string:=by cases o<;>first|exact .inl ⟨_,rfl⟩|exact .inr A|(simp[Kx]at X)
 constructor
 ·intro N
  have l :¬ (281474976710656<Builtin.nextslicecap (n1+f) cap*i.bytes):=by
   have:=growslice_fits (need:=n1+f) (old:=cap) (bytes:=i.bytes) N (by rw[g7];exact Y)
   omega
  refine⟨grownCap w (n1+f) cap e,(Builtin.zeroCells J.cells (grownCap w (n1+f) cap e-(n1+f))).toList,grownCap_ge _ _ _ _,by simp[Builtin.zeroCells,K],?_⟩
  have h :¬ (n1+f<=cap):=O
  have s :¬ i.bytes=0:=O
  have T:∀Z:Array Value,us.toArray++(vs.toArray++Z)=(us++(vs++Z.toList)).toArray:=λZ=>by apply k_;simp
  have t:(Builtin.firstCells g n1 (.slice c n1 cap)).run P w.drew= .ok us.toArray w.drew:=R (w.drawn+1)
  have u:(Builtin.firstCells g f p).run P w.drew= .ok vs.toArray w.drew:=E (w.drawn+1)
  clear R E n
  rcases r with⟨L,rfl⟩|rfl
  ·simp[Builtin.append_,run_underlying (hI.dI m _ v),run_underlying C,sizeOf,typeInfo,zeroValue,g1,g2,y,x,h,s,l,Question.forced,t,u,newRow,grownCap]
   rw[T]
   rfl
  ·simp[Builtin.append_,run_underlying (hI.dI m _ v),run_underlying C,sizeOf,typeInfo,zeroValue,g1,g2,y,x,h,s,l,Question.forced,t,u,newRow,grownCap]
   rw[T]
   rfl
 ·intro h
  rcases r with⟨L,rfl⟩|rfl
  ·cases c<;>simp[Builtin.append_,run_underlying (hI.dI m _ v),run_underlying C,sizeOf,typeInfo,g1,y,x,h,n]
  ·cases c<;>simp[Builtin.append_,run_underlying (hI.dI m _ v),run_underlying C,sizeOf,typeInfo,g1,y,x,h,n]
theorem aJ.pre{ρ:Env}{w:World}{r N:Nat}{a b:List AV}{rw:Access}(h:aJ ρ w (M (r,N)) (a++b) rw):aJ ρ w (M (r,N)) a rw:=by
 rcases h with⟨_,d⟩|⟨f,i,vs,rest,el,fr,j,l,q,c,m,s,o⟩
 ·cases d
 ·have hl:=c.length_eq
  simp only[n_]at hl
  refine .inr ⟨f,i,vs.take a.length,vs.drop a.length++rest,el,fr,j,?_,?_,?_,m,λv t=>Y,λe=>by rw[<-d_,v_];exact o e⟩
  ·rw[<-d_,v_];exact l
  grind
  ·have:=c.take a.length
   grind
theorem HU{H e l x len f C}(h:fF H e x=M (true,len,f,C))(p:lg x=M l){ρ w r N}(d:bp ρ w (M (r,N)) (H.get l)):
  aJ ρ w (M (r,N)) (rowsOf len f) (H.get l).acc:=by
 rw[<-ai.Tf]
 replace d:=d.un
 have key:∀(cs:List AV)(rw:Access),0<e->len*e<=cs.length->aJ ρ w (M (r,N)) cs rw->aJ ρ w (M (r,N)) (rowsOf len λi=>(cs.drop (i*e)).take e) rw:=by
  intro cs rw q hl s
  have:=iP (cs:=cs) (o:=0) q (n:=len) O
  simp only[b_]at this
  rw[this,w_]
  rw[<-v_ (len*e) cs]at s
  exact s.pre
 have j:∀(m:Nat)(g:Nat->List AV)(rw:Access),len<=m->aJ ρ w (M (r,N)) (rowsOf m g) rw->aJ ρ w (M (r,N)) (rowsOf len g) rw:=by
  intro m g rw hl s
  obtain⟨a,t,y,D⟩:=ns (m:=m) (f:=g) (n:=len) (k:=0) O
  have v:a=[]:=by rw[D];rfl
  subst v
  simp only[t_,b_]at y
  rw[y]at s
  exact s.pre
 unfold lg at p
 split at p
 ·rename_i E u F
  cases p
  simp only[fF]at h
  split at h
  ·rename_i q
   split at h
   ·rename_i cs rw b
    rw[b]at d⊢
    simp only[fE,Prod.mk.injEq,bn]at h
    obtain⟨c,rfl,rfl,rfl⟩:=h
    exact key cs rw q.2 c d
   ·rename_i m G g rw b
    rw[b]at d⊢
    split at h
    ·simp only[fE,Prod.mk.injEq,bn]at h
     obtain⟨c,rfl,rfl,rfl⟩:=h
     exact j m g rw c d.2
    ·cases h
   ·cases h
  ·cases h
 ·rename_i E u I F
  cases p
  simp only[fF]at h
  split at h
  ·rename_i q
   split at h
   ·rename_i cs rw b
    rw[b]at d⊢
    simp only[fE,Prod.mk.injEq,bn,u_,b_]at h
    obtain⟨c,rfl,rfl,rfl⟩:=h
    exact key cs rw q.2 c d
   ·rename_i m G g rw b
    rw[b]at d⊢
    split at h
    ·simp only[fE,Prod.mk.injEq,bn,b_]at h
     obtain⟨c,rfl,rfl,rfl⟩:=h
     exact j m g rw c d.2
    ·cases h
   ·cases h
  ·cases h
 ·cases p
theorem Rel.Ge{c ρ H w}(h:Rel c ρ H w)(b)(s:bp ρ w z b):Rel c ρ (H.new b) w:=by
 have hn:ρ H.n= .none:=h.top _ (dw _)
 refine⟨λl=>?_,λl o r a t i d f j=>?_,λl r a d f=>?_,h.gH,h.size,h.os,h.output,h.tape,λl hl=>h.top l (by simp at hl;omega),h.fp,λl r a q f=>?_,λl hl=>?_,λl hl=>by rw[F_ _ _ (by simp at hl;omega)];exact h.low l (by simp at hl;omega),h.qY,λl r a d f=>?_,h.xw,h.qZ⟩
 ·by_cases hl:l=H.n
  ·subst hl;rw[AH.nj,hn];exact s
  ·rw[F_ _ _ hl];exact h.dF l
 ·have hl:l≠H.n:=λe=>by grind
  have m:o≠H.n:=λe=>Y
  rw[F_ _ _ hl]at d
  rw[F_ _ _ m]
  exact h.sep l o r a t i d f j
 ·have hl:l≠H.n:=λe=>by grind
  rw[F_ _ _ hl]at d
  exact h.gL l r a d f
 ·have hl:l≠H.n:=λe=>by grind
  rw[F_ _ _ hl]at q
  exact h.hid l r a q f
 ·obtain⟨f,j⟩:=h.env l hl
  exact⟨by simp;omega,j⟩
 ·have hl:l≠H.n:=λe=>by grind
  rw[F_ _ _ hl]at d
  exact h.pV l r a d f
theorem Rel.Pn{c ρ H w}(h:Rel c ρ H w){l}(b)(hl:ρ l=z)(t:bp ρ w z b)(u:l<H.n):Rel c ρ (H.set l b) w:=by
 have d:∀i,i≠l->(H.set l b).get i=H.get i:=λi e=>AH.bk _ _ (λv=>e v.symm)
 refine⟨λi=>?_,λi o r a y q f j C=>?_,λi r a f j=>?_,h.gH,h.size,h.os,h.output,h.tape,λi hi=>h.top i (by simpa using hi),h.fp,λi r a s j=>?_,λi hi=>by simpa using h.env i hi,λi hi=>by rw[d i (by simp at hi;omega)];exact h.low i (by simpa using hi),h.qY,λi r a f j=>?_,h.xw,h.qZ⟩
 ·by_cases e:i=l
  ·subst e
   rw[Y_,hl];exact t
  ·rw[d i e];exact h.dF i
 ·have m:i≠l:=λe=>by grind
  have D:o≠l:=λe=>Y
  rw[d i m]at f
  rw[d o D]
  exact h.sep i o r a y q f j C
 ·have m:i≠l:=λe=>by grind
  rw[d i m]at f
  exact h.gL i r a f j
 ·have m:i≠l:=λe=>by grind
  rw[d i m]at s
  exact h.hid i r a s j
 ·have m:i≠l:=λe=>by grind
  rw[d i m]at f
  exact h.pV i r a f j
theorem vx(hX:X.Ok sem){e s n a dF H K}(h:sem (pf X e s n a dF H K)):
  ∃l,lg s=M l/\(H.get l).rw=true/\sem (K (.own H.n n a) ((H.set l .dead).new (dF ((H.get l).acc.meet e)))):=by
 unfold pf at h
 split at h
 ·rename_i l hl
  split at h
  grind
  ·exact zR
 ·exact zR
include hX hI in
theorem D1{st xt:TypeId}{s x:AV}{H:AH}{K:AV->AH->R}(h:sem (Sb X I st xt s x H K)):
  ∃a H',sem (K a H')/\∀c ρ w U j ty,VR ρ s U->VR ρ x j->Rel c ρ H w->∃G w' ρ',(Builtin.append_ #[st,xt] ty #[U,j]).run P w= .ok G w'/\Ext ρ ρ'/\Rel c ρ' H' w'/\VR ρ' a G:=by
 unfold Sb at h
 split at h
 ·rename_i e xd bd bi
  split at h
  ·rename_i u ek zs bq bs hz b0
   split at h
   ·rename_i b5
    split at h
    ·rename_i en n1 f1 c1 eo y f2 c2 f ap
     obtain⟨cf,hK⟩:=hX.ak _ _ h
     simp only[bf,bn]at cf
     obtain⟨⟨⟨⟨rfl,rfl⟩,V⟩,W⟩,c6⟩:=cf
     have a6:=Sa f ap c6
     have J:∀(d:Access),(∀e',d= .ty e'->e=e')->d≠ .ro->(∀m,d≠ .ex m)->∀c ρ w (q:Option Addr) (cap:Nat) j ty,VR ρ s (.slice q n1 cap)->VR ρ x j->Rel c ρ H w->cap<n1+y->
       ∃G w' ρ',(Builtin.append_ #[st,xt] ty #[.slice q n1 cap,j]).run P w= .ok G w'/\Ext ρ ρ'/\Rel c ρ' (H.new (jg (dR I e u H s x).2 n1 y u f1 f2 (c1&&c2) d)) w'/\VR ρ' (.own H.n (n1+y) u) G:=by
      intro d hA dd dk c ρ w q cap j ty i hx g b6
      obtain⟨l1,_,r1⟩:=j2 (P:=P) f i g
      obtain⟨l2,g2,r2⟩:=j2 (P:=P) ap hx g
      obtain⟨us,u1,u2,b7,u3⟩:=r1 n1 (dw _)
      obtain⟨vs,v1,v2,Y,v3⟩:=r2 y (dw _)
      obtain⟨nc,rest,a1,a2,a3⟩:=(ol hI bd bi bq bs hz b5 b0 V W w g2 u3 v3 ty).1 b6
      have dr:=g.drawn (w.drawn+1)
      have Z:=Env.nk (w.heap.size,nc*u) (g.top _ (dw H.n))
      have hN:(us++vs++rest).length=nc*u:=by
       simp only[n_,u2,v2,a2]
       rw[<-A_,<-A_]
       congr 1;omega
      obtain⟨b8,b9⟩:=dr.new (.cells (us++vs++rest).toArray e) (nc*u) (jg (dR I e u H s x).2 n1 y u f1 f2 (c1&&c2) d) λw' dt=>
       yo l1 l2 (.inr ⟨_,_,us++vs,rest,e,(0,0),rfl,dt,hN,(aU.ext Z _ _ u1).append (aU.ext Z _ _ v1),pU.fresh hA dk,λv hv=>(List.mem_append.1 hv).elim (b7 v) (Y v),λe=>absurd e dd⟩) a6
      exact⟨_,_,_,a3,b8,b9,by simp only[VR];exact .inr ⟨_,_,nc,Env.cP _ _ _,rfl,a1,dw _⟩⟩
     have both:∀l,lg s=M l->(H.get l).rw=true->∀c ρ w (r N cap:Nat) j ty,ρ l=M (r,N)->cap*u<=N->VR ρ s (.slice (M ⟨r,0,z⟩) n1 cap)->VR ρ x j->Rel c ρ H w->
       ∃G w' ρ',(Builtin.append_ #[st,xt] ty #[.slice (M ⟨r,0,z⟩) n1 cap,j]).run P w= .ok G w'/\Ext ρ ρ'/\Rel c ρ' ((H.set l .dead).new (jg (dR I e u H s x).2 n1 y u f1 f2 (c1&&c2) ((H.get l).acc.meet e))) w'/\VR ρ' (.own H.n (n1+y) u) G:=by
      intro l hl D c ρ w r N cap j ty cg S i hx g
      have hw:(H.get l).acc.w=true:=by rw[ai.Vt];exact D
      by_cases b6:cap<n1+y
      ·obtain⟨G,w',ρ',b1,b2,b3,b4⟩:=J _ (λ_ h=>(Access.uM h).1) Access.uK (λ_=>Access.uL) c ρ w _ cap j ty i hx g b6
       exact⟨G,w',ρ',b1,b2,PO (g.oZ D) b3,b4⟩
      ·obtain⟨l1,_,r1⟩:=j2 (P:=P) f i g
       obtain⟨l2,g2,r2⟩:=j2 (P:=P) ap hx g
       obtain⟨us,u1,u2,b7,u3⟩:=r1 n1 (dw _)
       obtain⟨vs,v1,v2,Y,v3⟩:=r2 y (dw _)
       have a3:=(ol hI bd bi bq bs hz b5 b0 V W w g2 u3 v3 ty).2 O
       have hb:=g.dF l
       rw[cg]at hb
       have ch:=HU f hl hb
       have er:=bE l1
       rcases ch with⟨_,h0⟩|⟨b',N',ws,rest,el,fr,e1,e2,e3,e4,e5,e6,e7⟩
       ·cases h0
       ·cases e1
        have et:=e4.length_eq
        have E:(n1+y)*u<=N:=b? (a_ u O) S
        rw[A_]at E
        obtain⟨w',dv,ea,ed⟩:=jf (P:=P) (o:=n1*u) vs 0 w (ws++rest) el fr e2 O (by rw[e3];exact e5.w hw) Y
        have Z:Ext ρ (ρ.put H.n (r,N)):=Env.nk _ (g.top _ (dw _))
        have cd:aJ (ρ.put H.n (r,N)) w' (M (r,N)) (rowsOf n1 f1++rowsOf y f2) ((H.get l).acc.meet e):=by
         refine .inr ⟨r,N,ws++vs,rest.drop (y*u),el,fr,rfl,?_,?_,(aU.ext Z _ _ e4).append (aU.ext Z _ _ v1),e5.meet hw,λv hv=>(List.mem_append.1 hv).elim (e6 v) (Y v),λe=>absurd e Access.uK⟩
         ·rw[ea]
          congr 2
          simp only[s_]
          have hq:n1*u+vs.length-ws.length=y*u:=O
          rw[c_ O,h_ O,S_,r_ (O:ws.length<=n1*u+vs.length),t_,hq]
         ·simp only[n_,List.length_drop]at e3⊢
          omega
        obtain⟨b8,b9⟩:=g.Vs (jg (dR I e u H s x).2 n1 y u f1 f2 (c1&&c2) ((H.get l).acc.meet e)) D cg ed (yo l1 l2 cd a6)
        refine⟨_,w',_,?_,b8,b9,by simp only[VR];exact .inr ⟨r,N,cap,Env.cP _ _ _,rfl,O,S⟩⟩
        rw[a3]
        simp only[addr_add,b_,dv,Result.andThen_ok]
     have Q:∀c ρ w v,VR ρ s v->Rel c ρ H w->(Builtin.lenOf v).run P w= .ok n1 w:=λc ρ w v hv g=>(j2 (P:=P) f hv g).2.1
     have same:y=0->∀c ρ w (q:Option Addr) (cap:Nat) j ty,n1<=cap->VR ρ s (.slice q n1 cap)->VR ρ x j->Rel c ρ H w->(Builtin.append_ #[st,xt] ty #[.slice q n1 cap,j]).run P w= .ok (.slice q n1 cap) w:=by
      intro h0 c ρ w q cap j ty E i hx g
      subst h0
      obtain⟨l1,_,r1⟩:=j2 (P:=P) f i g
      obtain⟨l2,g2,r2⟩:=j2 (P:=P) ap hx g
      obtain⟨us,u1,u2,b7,u3⟩:=r1 n1 (dw _)
      obtain⟨vs,v1,v2,Y,v3⟩:=r2 0 (dw _)
      have:vs=[]:=by
       cases vs with
       |nil=>rfl
       |cons v vs=>simp at v2
      subst this
      have a3:=(ol hI bd bi bq bs hz b5 b0 V W w g2 u3 v3 ty).2 O
      rw[a3]
      cases q<;>simp[storeCells]
     have p:∀{l b k len:Nat}{cap:Option Nat}{e:Nat},s= .slice l b k len cap e->len=n1:=by
      intro l b k len cap e i
      rw[i]at f
      simp only[fF]at f
      split at f
      ·split at f
       ·simp only[fE,Prod.mk.injEq]at f;exact f.2.1
       ·split at f
        ·simp only[fE,Prod.mk.injEq]at f;exact f.2.1
        ·cases f
       ·cases f
      ·cases f
     have a7:∀{l b k len:Nat}{cap:Option Nat}{e:Nat},s= .slice l b k len cap e->e=u:=by
      intro l b k len cap e i
      rw[i]at f
      simp only[fF]at f
      split at f
      ·rename_i he;exact he.1.symm
      ·cases f
     have L:∀{l b k len:Nat}{cap:Option Nat}{es:Nat},s= .slice l b k len cap es->0<y->sem (pf X e s (n1+y) u (jg (dR I e u H s x).2 n1 y u f1 f2 (c1&&c2)) H K)->
       ∃a H',sem (K a H')/\∀c ρ w U j ty,VR ρ s U->VR ρ x j->Rel c ρ H w->∃G w' ρ',(Builtin.append_ #[st,xt] ty #[U,j]).run P w= .ok G w'/\Ext ρ ρ'/\Rel c ρ' H' w'/\VR ρ' a G:=by
      intro l b k len cap es i ej ee
      obtain⟨l',C,D,hk⟩:=vx hX ee
      refine⟨_,_,hk,λc ρ w U j ty a8 hx g=>?_⟩
      have cr:=p i
      have he:=a7 i
      have ad:=a8
      rw[i]at ad C
      unfold lg at C
      split at C
      ·rename_i hq;cases hq
      ·rename_i l2 ag cv e2 hq
       cases hq
       cases C
       simp only[VR]at ad
       obtain⟨b,N,cc,a,hb,rfl,E,T,_⟩:=ad
       subst cr he
       by_cases ef:0<cc
       ·obtain⟨rfl,hN⟩:=T ef
        simp only[u_,b_,s_]at hN a8⊢
        exact both _ (by rw[i];rfl) D c ρ w b N cc j ty hb hN a8 hx g
       ·obtain⟨G,w',ρ',b1,b2,b3,b4⟩:=J _ (λ_ h=>(Access.uM h).1) Access.uK (λ_=>Access.uL) c ρ w _ cc j ty a8 hx g O
        exact⟨G,w',ρ',b1,b2,PO (g.oZ D) b3,b4⟩
      ·cases C
     split at hK
     ·
      refine⟨_,_,hK,λc ρ w U j ty i hx g=>?_⟩
      have t:=i
      simp only[VR]at t
      subst t
      have h0:n1=0:=by
       have:=Q c ρ w _ i g
       simp[Builtin.lenOf]at this;exact this.symm
      subst h0
      by_cases h2:y=0
      ·subst h2
       refine⟨_,w,ρ,same A c ρ w z 0 j ty (dw _) i hx g,Ext.refl _,g.Ge _ (tI a6),by simp[VR]⟩
      ·have:=J (.ty e) (λ_ h=>by cases h;rfl) (λh=>zE) (λ_ h=>zE) c ρ w z 0 j ty i hx g O
       simpa using this
     ·rename_i l b k len cp es
      have F:=hX.cond _ _ _ hK
      by_cases h2:y=0
      ·rw[bW h2,if_pos A]at F
       refine⟨_,_,F,λc ρ w U j ty i hx g=>?_⟩
       have t:=i
       simp only[VR]at t
       obtain⟨b',N,cc,a,hb,rfl,E,T,_⟩:=t
       have:=p A
       subst this
       exact⟨_,w,ρ,same h2 c ρ w _ cc j ty E i hx g,Ext.refl _,g,i⟩
      ·rw[nZ h2,if_neg zA]at F
       have bc:=hX.cond _ _ _ F
       by_cases cx:cp=len
       ·rw[bW cx,if_pos A]at bc
        refine⟨_,_,bc,λc ρ w U j ty i hx g=>?_⟩
        have t:=i
        simp only[VR]at t
        obtain⟨b',N,cc,a,hb,rfl,E,T,S⟩:=t
        have:=p A
        subst this
        have:=S _ A
        exact J (.ty e) (λ_ h=>by cases h;rfl) (λh=>zE) (λ_ h=>zE) c ρ w _ cc j ty i hx g O
       ·rw[nZ cx,if_neg zA]at bc
        exact L A O bc
     ·rename_i l b k len es
      have F:=hX.cond _ _ _ hK
      by_cases h2:y=0
      ·rw[bW h2,if_pos A]at F
       refine⟨_,_,F,λc ρ w U j ty i hx g=>?_⟩
       have t:=i
       simp only[VR]at t
       obtain⟨b',N,cc,a,hb,rfl,E,T,_⟩:=t
       have:=p A
       subst this
       exact⟨_,w,ρ,same h2 c ρ w _ cc j ty E i hx g,Ext.refl _,g,i⟩
      ·rw[nZ h2,if_neg zA]at F
       exact L A O F
     ·rename_i ez eg ei
      obtain⟨l',C,D,hk⟩:=vx hX hK
      refine⟨_,_,hk,λc ρ w U j ty i hx g=>?_⟩
      unfold lg at C
      split at C
      ·rename_i l2 ag e2
       cases C
       have he:e2=u:=by
        simp only[fF]at f
        split at f
        ·rename_i he;exact he.1.symm
        ·cases f
       have t:=i
       simp only[VR]at t
       rcases t with⟨rfl,rfl⟩|⟨b',N,cc,hb,rfl,E,T⟩
       ·have h0:n1=0:=by
         have:=Q c ρ w _ i g
         simp[Builtin.lenOf]at this;exact this.symm
        subst h0
        by_cases h2:y=0
        ·subst h2
         refine⟨_,w,ρ,same A c ρ w z 0 j ty (dw _) i hx g,Ext.refl _,(g.kill _).Ge _ (tI a6),by simp[VR]⟩
        ·obtain⟨G,w',ρ',b1,b2,b3,b4⟩:=J _ (λ_ h=>(Access.uM h).1) Access.uK (λ_=>Access.uL) c ρ w z 0 j ty i hx g O
         exact⟨G,w',ρ',b1,b2,PO (g.oZ D) b3,b4⟩
       ·have h0:ag=n1:=by
         have:=Q c ρ w _ i g
         simp[Builtin.lenOf]at this;exact this
        subst h0 he
        exact both _ A D c ρ w b' N cc j ty hb T i hx g
      ·rename_i l2 ag cv e2
       cases cv with
       |none=>exact absurd A (ei _ _ _ _ _)
       |some cp=>exact absurd A (eg _ _ _ _ _ _)
      ·cases C
    ·exact zR
   ·exact zR
  ·exact zR
 ·exact zR
end
end
section
def ai.Bw(b:ai)(c k e n:Nat)(f:Nat->List AV):Option (Bool×ai):=
 match b with
 | .cells cs a=>bif a.w then M (f_ (c+k*e+n*e<=cs.length),.cells (cs.take (c+k*e)++rowsOf n f++cs.drop (c+k*e+n*e)) a)else z
 | .rows m d g a=>bif a.w then(if e=d/\c=0 then M (f_ (k+n<=m),.rows m d (λi=>bif m_ k i&&e_ i (k+n)then f (i-k)else g i) a)else z)else z
 |_=>z
def ai.Ky(b:ai)(a k e n:Nat)(f:Nat->List AV):Option (Bool×ai):=b.un.Bw a k e n f
theorem Bx{m e:Nat}{g:Nat->List AV}(h:∀i,i<m->(g i).length=e){k n:Nat}{f:Nat->List AV}(j:k+n<=m)(hl:(rowsOf n f).length=n*e:=by assumption):
  rowsOf m (λi=>bif m_ k i&&e_ i (k+n)then f (i-k)else g i)=(rowsOf m g).take (k*e)++rowsOf n f++(rowsOf m g).drop (k*e+n*e):=by
 obtain⟨d,rfl⟩:∃d,m=k+n+d:=⟨m-(k+n),O⟩
 have a:∀i,i<k->(bif m_ k i&&e_ i (k+n)then f (i-k)else g i)=g i:=λi hi=>by
  have:m_ k i=false:=by rw[i_];intro e;rw[D_]at e;omega
  rw[this];rfl
 have b:∀i,i<n->(bif m_ k (k+i)&&e_ (k+i) (k+n)then f (k+i-k)else g (k+i))=f i:=λi hi=>by
  have l:m_ k (k+i)=true:=by rw[D_];omega
  have o:e_ (k+i) (k+n)=true:=by rw[g_];omega
  grind
 have c:∀i,i<d->(bif m_ k (k+n+i)&&e_ (k+n+i) (k+n)then f (k+n+i-k)else g (k+n+i))=g (k+n+i):=λi hi=>by
  have:e_ (k+n+i) (k+n)=false:=by rw[i_];intro e;rw[g_]at e;omega
  grind
 rw[jH,jH,gY a,gY b,gY c,jH (k+n) d g,jH k n g]
 have l1:(rowsOf k g).length=k*e:=bE λi hi=>h i O
 have l2:(rowsOf n λi=>g (k+i)).length=n*e:=bE λi hi=>h _ O
 grind
theorem ai.Kz{ρ P w r N b v c k e n f us}(h:bp ρ w (M (r,N)) b)(D:∀i,i<n->(f i).length=e)
  (d:b.Bw c k e n f=M (true,v)) (hx:aU ρ (rowsOf n f) us) (y:∀u∈us,u.oneCell'=true):
  b.rw=true/\∃w',(storeCells ⟨r,c+k*e,z⟩ us).run P w= .ok () w'/\fD r w w'/\bp ρ w' (M (r,N)) v:=by
 have hl:=bE D
 unfold ai.Bw at d
 split at d
 ·rename_i cs a
  cases ha:a.w with
  |false=>grind
  |true=>
  rw[ha]at d
  simp only[cond_true,fE,Prod.mk.injEq,bn]at d
  obtain⟨q,rfl⟩:=d
  obtain⟨w',f1,s,j⟩:=aJ.store (P:=P) h ha (o:=c+k*e) hx y O
  rw[hl]at j
  exact⟨ha,w',f1,s,j⟩
 ·rename_i m F g a
  cases ha:a.w with
  |false=>grind
  |true=>
  rw[ha,cond_true]at d
  split at d
  ·rename_i l
   obtain⟨rfl,rfl⟩:=l
   simp only[fE,Prod.mk.injEq,bn]at d
   obtain⟨C,rfl⟩:=d
   have E:=bE h.1
   have q:k*e+n*e<=m*e:=by rw[<-A_];exact a_ e C
   obtain⟨w',f1,s,j⟩:=aJ.store (P:=P) h.2 ha (o:=k*e) hx y O
   simp only[b_]
   refine⟨ha,w',f1,s,λi hi=>?_,by rw[Bx h.1 C,<-hl];exact j⟩
   cases l:m_ k i&&e_ i (k+n)with
   |true=>
    have t:=l
    simp only[bf,D_,g_]at t
    grind
   |false=>
    simp only[l,cond_false]
    exact h.1 i hi
  ·cases d
 ·cases d
theorem ai.Po{ρ P w r N b c a k e n f us}(h:bp ρ w (M (r,N)) b)(d:∀i,i<n->(f i).length=e)
  (j:b.Ky a k e n f=M (true,c)) (hx:aU ρ (rowsOf n f) us) (l:∀u∈us,u.oneCell'=true):
  b.rw=true/\∃w',(storeCells ⟨r,a+k*e,z⟩ us).run P w= .ok () w'/\fD r w w'/\bp ρ w' (M (r,N)) c:=by
 rw[<-ai.Kk]
 exact ai.Kz h.un d j hx l
section
variable {R:Type} {X:RI R} {sem:R->Prop} (hX:X.Ok sem) {I:ba} {P:Program} (hI:I.Ok P)
def Sc:AV->Option (Nat×Nat×Nat×Nat×Nat)
 | .slice l base k len _ e=>M (l,base,k,len,e)
 | .own l len e=>M (l,0,0,len,e)
 |_=>z
def qp(X:RI R)(I:ba)(g:TypeId)(d x:AV)(H:AH)(K:AV->AH->R):R :=
 match I.dI g with
 |some (.slice e)=>
  match I.size e with
  |some a=>
   match Sc d,fF H a x with
   |some (l,base,k,len,h),M (ok,n,f,_)=>
    if h=a then
     match(H.get l).Ky base k a (p_ n len) f with
     |some (c,b)=>X.ak (ok&&c) (K (.int .i64 (p_ n len:Nat)) (H.set l b))
     |none=>X.fail
    else X.fail
   |_,_=>X.fail
  |none=>X.fail
 |_=>X.fail
include hX hI in
theorem pg{dt:TypeId}{d x:AV}{H:AH}{K:AV->AH->R}(h:sem (qp X I dt d x H K)):
  ∃a H',sem (K a H')/\∀c ρ w F u (S:Array TypeId) ty,S[0]? =M dt->VR ρ d F->VR ρ x u->Rel c ρ H w->∃v' w' ρ',(Builtin.copy_ S ty #[F,u]).run P w= .ok v' w'/\Ext ρ ρ'/\Rel c ρ' H' w'/\VR ρ' a v':=by
 unfold qp at h
 split at h
 ·rename_i e T
  split at h
  ·rename_i sz U
   split at h
   ·rename_i l V k len e' ok n f cl W hv
    split at h
    ·rename_i he
     subst he
     split at h
     ·rename_i b1 b o
      obtain⟨Y,hK⟩:=hX.ak _ _ h
      simp only[bf]at Y
      obtain⟨rfl,rfl⟩:=Y
      refine⟨_,_,hK,λc ρ w F u S ty Z s a8 L=>?_⟩
      obtain⟨l1,g1,r1⟩:=j2 (P:=P) hv a8 L
      obtain⟨us,u1,u2,bc,u3⟩:=r1 (p_ n len) (X_ _ _)
      have ad:=u3 w.drawn
      have v:∀m:Nat,VR ρ (.int .i64 (m:Nat)) (goInt m):=λm=>by simp only[VR];rfl
      have run:∀(a:Addr)(cap:Nat),F= .slice (M a) len cap->(Builtin.copy_ S ty #[F,u]).run P w=((storeCells a us).run P w).andThen λ_ w'=> .ok (goInt (p_ n len)) w':=by
       intro a cap s
       subst s
       have e1:(#[z_ (M a) len cap,u])[0]? =M (.slice (M a) len cap):=rfl
       have Q:(#[z_ (M a) len cap,u])[1]? =M u:=rfl
       simp only[Builtin.copy_,Z,e1,Q,Sem.run_bind,hI.aW w T,Result.andThen_ok,g1,hI.ca w U,ad,Sem.run_pure]
      have q:F= .slice z 0 0->len=0->(Builtin.copy_ S ty #[F,u]).run P w= .ok (goInt (p_ n len)) w:=by
       intro s ag
       subst s ag
       have e1:(#[z_ z 0 0,u])[0]? =M (.slice z 0 0):=rfl
       have Q:(#[z_ z 0 0,u])[1]? =M u:=rfl
       simp only[Builtin.copy_,Z,e1,Q,Sem.run_bind,hI.aW w T,Result.andThen_ok,g1,hI.ca w U,ad,Sem.run_pure]
      have zero:p_ n len=0->us=[]:=λC=>by
       rw[C,u_]at u2
       exact List.eq_nil_of_length_eq_zero u2
      have wr:∀r N,ρ l=M (r,N)->∃w',(storeCells ⟨r,V+k*e',z⟩ us).run P w= .ok () w'/\Rel c ρ (H.set l b) w':=by
       intro r N y
       have j:=L.dF l
       rw[y]at j
       obtain⟨bd,w',f1,t,f3⟩:=ai.Po (P:=P) j (λi hi=>l1 i (Nat.lt_of_lt_of_le hi (X_ _ _))) o u1 bc
       exact⟨w',f1,L.fC b bd y t.other t.size t.os t.output t.tape f3⟩
      have G:p_ n len=0->ρ l=z->Rel c ρ (H.set l b) w:=by
       intro C ap
       have j:=L.dF l
       rw[ap]at j
       rw[C]at o
       have bi:bp ρ w z b:=by
        replace j:=j.un
        unfold ai.Ky at o
        unfold ai.Bw at o
        split at o
        ·rename_i cs a J
         rw[J]at j
         cases ha:a.w with
         |false=>rw[ha]at o;cases o
         |true=>
         rw[ha]at o
         simp only[cond_true,fE,Prod.mk.injEq]at o
         obtain⟨_,rfl⟩:=o
         rcases j with⟨rfl,_⟩|⟨_,_,_,_,_,_,C,_⟩
         ·exact .inl ⟨by simp[rowsOf],rfl⟩
         ·cases C
        ·rename_i m Q g a J
         rw[J]at j
         cases ha:a.w with
         |false=>rw[ha]at o;cases o
         |true=>
         rw[ha,cond_true]at o
         split at o
         ·simp only[fE,Prod.mk.injEq]at o
          obtain⟨_,rfl⟩:=o
          have e0:∀i,(bif m_ k i&&e_ i (k+0)then f (i-k)else g i)=g i:=λi=>by
           cases hc:m_ k i&&e_ i (k+0)with
           |true=>simp only[bf,D_,g_]at hc;omega
           |false=>rfl
          refine⟨λi hi=>by have:=e0 i;simp only[this];exact j.1 i hi,?_⟩
          rw[gY λi _=>e0 i]
          exact j.2
         ·cases o
        ·cases o
       refine L.Pn b ap bi (L.below λe=>?_)
       rw[e]at o
       simp[ai.Ky,ai.Bw,ai.un]at o
      unfold Sc at W
      split at W
      ·rename_i l2 bq k2 a6 cp Q
       cases W
       have p:=s
       simp only[VR]at p
       obtain⟨r,N,cc,a,D,rfl,bs,a7,_⟩:=p
       by_cases b0:0<cc
       ·obtain⟨rfl,_⟩:=a7 b0
        obtain⟨w',f1,t⟩:=wr r N D
        exact⟨_,w',ρ,by rw[run _ cc A,f1];rfl,Ext.refl _,t,v _⟩
       ·have C:p_ n len=0:=Nat.le_zero.1 (b? (Nat.min_le_right n len) O)
        have E:=zero C
        obtain⟨w',f1,t⟩:=wr r N D
        rw[E]at f1
        have:w'=w:=by simp[storeCells]at f1;exact f1.symm
        subst this
        exact⟨_,w',ρ,by rw[run _ cc A,E];simp[storeCells],Ext.refl _,t,v _⟩
      ·rename_i l2 a6 Q
       cases W
       have p:=s
       simp only[VR]at p
       rcases p with⟨rfl,rfl⟩|⟨r,N,cc,D,rfl,bs,a7⟩
       ·have C:p_ n 0=0:=Nat.min_zero n
        have E:=zero C
        cases y:ρ l with
        |none=>exact⟨_,w,ρ,q A A,Ext.refl _,G C y,v _⟩
        |some x=>
         obtain⟨r,N⟩:=x
         obtain⟨w',f1,t⟩:=wr r N y
         rw[E]at f1
         have:w'=w:=by simp[storeCells]at f1;exact f1.symm
         subst this
         exact⟨_,w',ρ,q A A,Ext.refl _,t,v _⟩
       ·obtain⟨w',f1,t⟩:=wr r N D
        simp only[u_,s_]at f1
        exact⟨_,w',ρ,by rw[run _ cc A,f1];rfl,Ext.refl _,t,v _⟩
      ·cases W
     ·exact zR
    ·exact zR
   ·exact zR
  ·exact zR
 ·exact zR
def RY(k:IntKind)(n:Nat)(f:Nat->List AV):Bool:=(B_ n).all λi=>match f i with|[.int a _]=>f_ (a=k)|_=>false
def Xy(a:List AV):Int:=match a with|[.int _ x]=>x|_=>0
def Sd(k:IntKind):List AV->Bool
 |[]=>true
 | .int a _::cs=>f_ (a=k)&&Sd k cs
 |_=>false
def Se(k:IntKind)(n:Nat)(f:Nat->List AV):Nat->List AV->List AV
 |_,[]=>[]
 |j,.int _ x::cs=> .int k (bif e_ j n then Xy (f j)else x)::Se k n f (j+1) cs
 |j,c::cs=>c::Se k n f (j+1) cs
theorem yp{k n f}:∀(cs)(j),Sd k cs=true->n<=j->Se k n f j cs=cs
 |[],_,_,_=>rfl
 |c::cs,j,h,b=>by
  cases c<;>simp only[Sd,bf,bn,kH]at h
  obtain⟨rfl,h⟩:=h
  have:e_ j n=false:=by rw[i_];intro e;rw[g_]at e;omega
  have a:=yp (n:=n) (f:=f) cs (j+1) h O
  simp only[Se,this,cond_false,a]
theorem Gf{k n f}(b:RY k n f=true):∀(m)(cs)(j),Sd k cs=true->j+m=n->m<=cs.length->Se k n f j cs=rowsOf m (λi=>f (j+i))++cs.drop m
 |0,cs,j,h,d,_=>by rw[yp cs j h O];rfl
 |m+1,[],j,_,_,hm=>absurd hm zA
 |m+1,c::cs,j,h,d,hm=>by
  cases c<;>simp only[Sd,bf,bn,kH]at h
  obtain⟨rfl,h⟩:=h
  have g:e_ j n=true:=by rw[g_];omega
  have a:=List.all_eq_true.1 b j Y
  have l:=Gf b m cs (j+1) h O (by simp at hm;omega)
  simp only[Se,g,cond_true,N_]
  rw[l]
  have e:rowsOf (m+1) (λi=>f (j+i))=f j++rowsOf m (λi=>f (j+1+i)):=by
   have:=jH 1 m (λi=>f (j+i))
   rw[Nat.add_comm 1 m]at this
   rw[this]
   have o:rowsOf 1 (λi=>f (j+i))=f j:=by simp[rowsOf]
   have p:(λi=>f (j+(1+i)))=λi=>f (j+1+i):=Y
   rw[o,p]
  rw[e,d_]
  split at a
  ·rename_i x hx
   have:=pT a
   subst this
   rw[hx];rfl
  ·cases a
def KC(X:RI R)(I:ba)(b:TypeId)(d x:AV)(H:AH)(K:AV->AH->R):R :=
 match I.dI b,Sc d,x with
 |some (.slice e),M (l,0,0,len,1),.ab n 1 f=>
  match I.size e,H.get l with
  |some 1,.cells (.int c v::cs) a=>bif H_ len (cs.length+1)&&(Sd c cs&&a.w)then X.ak (m_ n len&&RY c n f) (K (.int .i64 (n:Nat)) (H.set l (.cells (Se c n f 0 (.int c v::cs)) a)))else qp X I b d x H K
  |_,_=>qp X I b d x H K
 |_,_,_=>qp X I b d x H K
include hX hI in
theorem KD{o:TypeId}{d x:AV}{H:AH}{K:AV->AH->R}(h:sem (KC X I o d x H K)):
  ∃a H',sem (K a H')/\∀c ρ w t u (y:Array TypeId) ty,y[0]? =M o->VR ρ d t->VR ρ x u->Rel c ρ H w->∃C w' ρ',(Builtin.copy_ y ty #[t,u]).run P w= .ok C w'/\Ext ρ ρ'/\Rel c ρ' H' w'/\VR ρ' a C:=by
 unfold KC at h
 split at h
 ·rename_i e l len n f p F
  split at h
  ·rename_i b v cs a q hl
   cases m:H_ len (cs.length+1)&&(Sd b cs&&a.w)with
   |false=>rw[m]at h;exact pg hX hI h
   |true=>
    rw[m,cond_true]at h
    obtain⟨r,G⟩:=hX.ak _ _ h
    simp only[bf]at m r
    obtain⟨D,J,L⟩:=m
    have D:=dE D
    have N:=jX r.1
    have g:p_ n len=n:=W_ N
    have j:Sd b (.int b v::cs)=true:=by simp only[Sd,J,decide_true,Bool.and_self]
    have E:=Gf r.2 n (.int b v::cs) 0 j O zJ
    have Q:(λi=>f (0+i))=f:=funext λi=>by rw[b_]
    rw[Q]at E
    have s:qp RI.jY I o d (.ab n 1 f) H (λa' H'=>a'= .int .i64 (n:Nat)/\H'=H.set l (.cells (Se b n f 0 (.int b v::cs)) a)):=by
     unfold qp
     have S:fF H 1 (.ab n 1 f)=M (true,n,f,false):=rfl
     have s:(H.get l).Ky 0 0 1 n f=M (f_ (n<=(J_ b v::cs).length),.cells (Se b n f 0 (.int b v::cs)) a):=by
      rw[hl]
      show(bif a.w then M (f_ (0+0*1+n*1<=(J_ b v::cs).length),ai.cells ((J_ b v::cs).take (0+0*1)++rowsOf n f++(J_ b v::cs).drop (0+0*1+n*1)) a)else z)=_
      rw[L,cond_true,E]
      simp
     simp only[p,q,F,S,s,if_true,g]
     exact Ze zJ zA
    obtain⟨a',H',⟨rfl,rfl⟩,k⟩:=pg (sem:=id) RI.dJ hI s
    exact⟨_,_,G,k⟩
  ·exact pg hX hI h
 ·exact pg hX hI h
end
end
end
end Go.Sx
