/- The proof of a statement of the seat, part 4. -/
import Derived.Test.YtleifmkjbmhlpaaGreatDoorX03
import Derived.Laws.Append
set_option linter.all false
set_option linter.defProp false
set_option maxRecDepth 1000000
namespace Go.Sx
open Go
open Option renaming some->M,none->a_,bind_eq_some_iff->v_,isSome_none->F_,map_some->Z_
open _root_.Array renaming getElem?_setIfInBounds->z,ext'->k_,getElem?_modify->Q_,length_toList->U_,toList_modify->V_
open Nat renaming mul_le_mul_right->b_,zero_add->c_,blt->f_,beq->g_,blt_eq->j_,succ_mul->s_,ble->t_,min->w_,zero_mul->A_,lt_add_one->D_,add_zero->I_,add_mul->L_,ble_eq->N_,le_trans->T_,lt_of_lt_of_le->a?,min_eq_left->k?,min_le_left->l?,add_assoc->n?
open List renaming map_cons->d_,append_assoc->e_,take_append_of_le_length->h_,range->l_,take_of_length_le->m_,map_append->p_,map_congr_left->q_,length_append->u_,flatMap_def->x_,drop_of_length_le->y_,nil_append->z_,take_append_drop->B_,drop_zero->C_,push_toArray->G_,map_nil->H_,drop_append_of_le_length->K_,getD_eq_getElem?_getD->M_,getElem?_take_of_lt->O_,map_map->R_,getElem?_toArray->S_,getElem?_modify->W_,getElem?_drop->X_,ext_getElem?->b?,foldlM_cons->d?,drop_append->e?,range_succ->i?,map_set->p?
open Decidable renaming decide->i_
open Bool renaming eq_false_iff->n_
open Go.IntKind renaming i64->o_
open Classical renaming byContradiction->r_
open AV renaming int->E_,byte->g?,bool->h?,cells?->j?,sG->o?,one->q?
open Go.Value renaming slice->J_,int->Y_
open AH renaming bz->P_,get_set_same->m?
noncomputable section
section
def jE(P:Program)(s:Sem Next)(c:fE)(ρ:Env)(w:World)(a:AV)(H':AH):Prop :=
 ∃b w' ρ',s.run P w= .ok (.value b) w'/\Ext ρ ρ'/\Rel c ρ' H' w'/\VR ρ' a b/\oA w w'
theorem gg.next{P s c ρ w a H'}(h:gg P s c ρ w a H'):jE P (do pure (.value (<-s))) c ρ w a H':=by
 obtain⟨b,w',ρ',d,f⟩:=h;exact⟨b,w',ρ',by simp[d],f⟩
theorem aV.of_map{ρ ev e}(h:∀x,VR ρ (ev x) (e x)):∀a:List Operand,aV ρ (a.map ev) (a.map e)
 |[]=>zH
 |x::a=>aV.aM.2 ⟨h x,aV.of_map h a⟩
section
variable {R:Type} (X:RI R) (I:bg)
def xm(mx:Bool):List AV->Option AV
 | .int k x::rest=>rest.foldlM (λa b=>match a,b with
   | .int k x,.int _ y=>M (.int k (bif mx then(if y>x then y else x)else(if y<x then y else x)))
   |_,_=>a_) (.int k x)
 |_=>a_
def Xo:TypeId:=99
def Hq(X:RI R)(x:Int)(K:Int->R):Nat->Nat->R
 |0,_=>X.fail
 |n+1,i=>X.cond (i_ (x=Int.ofNat i)) (λ_=>K (Int.ofNat i)) (λ_=>Hq X x K n (i+1))
def qF(X:RI R)(I:bg)(t:TypeId)(x i:AV)(K:AV->R):R :=
 match g_ t Xo,x,i with
 |true,.ae len _ _,.int k j=>Hq X j (λj=>mD X I t x (.int k j) K) len 0
 |_,_,_=>mD X I t x i K
def Es(o:Oper)(ev:Operand->AV)(H:AH)(K:AV->AH->R):R :=
 match o.op with
 | .move x| .assign x=>K (ev x) H
 | .pick c a b=>match ev c with
  | .bool p=>match ev a,ev b with
   | .bool x,.bool y=>K (.bool (bif p then x else y)) H
   |x,y=>X.cond p (λ_=>K x H) (λ_=>K y H)
  |_=>X.fail
 | .alloc t=>match(I.zero t).bind j? with
  |some cs=>K (.ptr H.n 0 0 0) (H.new (.cells cs (.ty t)))
  |none=>X.fail
 | .box t x=>match(ev x).cells? with
  |some cs=>K (.ptr H.n 0 0 0) (H.new (.cells cs (.ty t)))
  |none=>X.fail
 | .build t parts=>match Hf I t (parts.toList.map λp=>(p.1,ev p.2))with
  |some a=>K a H
  |none=>X.fail
 | .buildSlice t len parts=>qD X I t len (parts.toList.map λp=>(p.1,ev p.2)) H K
 | .load t a=>wc X I t H (ev a) (λv=>K v H)
 | .nilCheck x=>match ev x with
  | .ptr l k e j=>K (.ptr l k e j) H
  | .bW cs j=>K (.bW cs j) H
  | .fn f a b=>K (.fn f a b) H
  | .yield l=>K (.yield l) H
  |_=>X.fail
 | .binOp op t x y _=>Xm X I op t (Operand.isConst x||Operand.isConst y) (ev x) (ev y) (λv=>K v H)
 | .unOp op _ x=>Pm X I.wr op (ev x) (λv=>K v H)
 | .convert s d x=>xN X I s d (ev x) H K
 | .makeInterface t x=>match I.eI t with
  |some (.interface _)=>X.fail
  |some _=>K (.iface t (ev x)) H
  |none=>X.fail
 | .makeFunc (.func f) first cap=>K (.fn f (first.toList.map ev) (cap.toList.map ev)) H
 | .makeMap _ a_=>K (.map (M H.n)) (H.new (.map []))
 | .makeSlice t l c=>s8 X I t (ev l) (ev c) H K
 | .slice t x lo hi mx=>CJ X I t (ev x) (lo.map ev) (hi.map ev) (mx.map ev) H (λv=>K v H)
 | .fieldAddr t x f=>s6 X I t (ev x) f (λv=>K v H)
 | .field t x f=>Hg X I t (ev x) f (λv=>K v H)
 | .indexAddr t x i=>qF X I t (ev x) (ev i) (λv=>K v H)
 | .index t x i=>Hi X I t (ev x) (ev i) (λv=>K v H)
 | .lookup t x i ok=>tQ X I t (ev x) (ev i) ok H (λv=>K v H)
 | .extract x i=>match ev x with
  | .bM vs=>match vs[i]? with
   |some a=>K a H
   |none=>X.fail
  |_=>X.fail
 | .call {callee:=.builtin .len,args,argTypes}=>match args.toList,argTypes.toList with
  |[x],[t]=>Ub X I t (ev x) H (λv=>K v H)
  |_,_=>X.fail
 | .call {callee:=.builtin .min,args,..}=>match xm false (args.toList.map ev)with
  |some a=>K a H
  |none=>X.fail
 | .call {callee:=.builtin .max,args,..}=>match xm true (args.toList.map ev)with
  |some a=>K a H
  |none=>X.fail
 |_=>X.fail
end
section
variable {R:Type} {X:RI R} {sem:R->Prop} (hX:X.Ok sem) {I:bg} {P:Program} (hI:I.Ok P)
theorem nO{P H s x a}(h:Yields P H s x a){c ρ w v}(d:VR ρ x v)(b:Rel c ρ H w):jE P (do pure (.value (<-s v))) c ρ w a H:=by
 obtain⟨u,e,f⟩:=h c ρ w v d b;exact(gg.same e b f).next
theorem pB{P H s x y a}(h:tO P H s x y a){c ρ w v u}(e:VR ρ x v)(f:VR ρ y u)(d:Rel c ρ H w):
  jE P (do pure (.value (<-s v u))) c ρ w a H:=by
 obtain⟨b,g,i⟩:=h c ρ w v u e f d;exact(gg.same g d i).next
theorem mr{ρ ev e}(h:∀x,VR ρ (ev x) (e x))(x:Option Operand):mF (x.map ev) (x.map e):=by
 cases x with
 |none=>trivial
 |some x=>
  intro k n a;have:=h x;rw[a]at this
  assumption
theorem vc{P mx ρ}(w):∀{as:List AV}{vs k x a},as.foldlM (λa b => match a,b with
      | .int k x, .int _ y => M (.int k (bif mx then(if y > x then y else x)else(if y < x then y else x)))
      |_,_ => a_) (E_ k x) = M a -> aV ρ as vs ->∃v,((vs.foldlM (if mx then Builtin.max2 else Builtin.min2) (Y_ k x):Sem Value).run P w = .ok v w) /\ VR ρ a v
  |[],vs,k,x,a,h,d => by simp only[aV]at d; subst d;simp only[List.foldlM_nil,Option.pure_def,gO]at h;subst h;exact⟨_,by simp; rfl,zB⟩
  |b ::as,vs,k,x,a,h,d => by
    simp only[aV]at d;obtain⟨u,us,rfl,e,g⟩ := d;simp only[d?,Option.bind_eq_bind,v_]at h;obtain⟨c,h3,h4⟩ := h;cases b with
    |int j y =>simp only[gO]at h3;subst h3;simp only[VR]at e;subst e;obtain⟨v,f,i⟩ := vc w h4 g;refine⟨v, ?_,i⟩;cases mx <;> simp only[d?,Sem.run_bind,if_true,lu,if_false,Builtin.min2,Builtin.max2,Sem.run_pure,Result.andThen_ok,cond_true,cond_false]at f ⊢ <;> exact f
    |_ => simp at h3
include hX in
theorem Bp{x:Int}{K:Int->R}:∀{n i:Nat},sem (Hq X x K n i)->sem (K x)
 |0,i,h=>zR
 |n+1,i,h=>by
  have a:=hX.cond _ _ _ h;by_cases e:x=Int.ofNat i
  ·rw[if_pos (by simpa using e)]at a;rw[e];exact a
  ·rw[if_neg (by simpa using e)]at a;exact Bp a
include hX in
theorem xS{t:TypeId}{x i:AV}{K:AV->R}(h:sem (qF X I t x i K)):sem (mD X I t x i K):=by
 unfold qF at h;split at h
 ·exact Bp hX h
 ·exact h
include hX hI in
theorem CM{o:Oper}{ev:Operand->AV}{H:AH}{K:AV->AH->R}(h:sem (Es X I o ev H K)):
  ∃a H',sem (K a H')/\∀c ρ w (e:Operand->Value),(∀x,VR ρ (ev x) (e x))->Rel c ρ H w->jE P (execOp e o) c ρ w a H':=by
 unfold Es at h;split at h
 case h_1 x D=>exact⟨_,_,h,λc ρ w e m C=>⟨e x,w,ρ,by simp[execOp,D],Ext.refl _,C,m x,oA.refl _⟩⟩
 case h_2 x D=>exact⟨_,_,h,λc ρ w e m C=>⟨e x,w,ρ,by simp[execOp,D],Ext.refl _,C,m x,oA.refl _⟩⟩
 case h_3 cd a b D=>
  split at h
  ·rename_i p hp;have U:∀c ρ w (e:Operand->Value),(∀x,VR ρ (ev x) (e x))->Rel c ρ H w->(execOp e o).run P w= .ok (.value (if p then e a else e b)) w:=by
    intro c ρ w e m C;have:=m cd;rw[hp]at this;simp only[VR]at this;simp[execOp,D,this,asBool]
   split at h
   ·rename_i x y hx hy;refine⟨_,_,h,λc ρ w e m C=>⟨_,w,ρ,U c ρ w e m C,Ext.refl _,C,?_,oA.refl _⟩⟩;cases p
    ·have:=m b;rw[hy]at this;simpa using this
    ·have:=m a;rw[hx]at this;simpa using this
   ·have Q:=hX.cond _ _ _ h;cases p with
    |true=>exact⟨_,_,by simpa using Q,λc ρ w e m C=>⟨_,w,ρ,U c ρ w e m C,Ext.refl _,C,by simpa using m a,oA.refl _⟩⟩
    |false=>exact⟨_,_,by simpa using Q,λc ρ w e m C=>⟨_,w,ρ,U c ρ w e m C,Ext.refl _,C,by simpa using m b,oA.refl _⟩⟩
  ·exact zR
 case h_4 t D=>
  split at h
  ·rename_i cs J;refine⟨_,_,h,λc ρ w e m C=>?_⟩;simp only[v_]at J;obtain⟨g,V,S⟩:=J;obtain⟨zv,E,F⟩:=hI.oz w V;have h3:=VR.cells (F ρ) S;have:jE P (do pure (.value (<-Instr.alloc t true (.tuple #[])))) c ρ w (.ptr H.n 0 0 0) (H.new (.cells cs (.ty t))):=by
    refine(gg.row (mk:=λa=> .pointer (M a)) (el:=t) C h3 (AV.mC S) ?_ λρ' L=>by simp only[VR];exact⟨_,_,L,rfl⟩).next;simp[Instr.alloc,E,newVar,newRow]
   simpa [execOp,D]using this
  ·exact zR
 case h_5 t x D=>
  split at h
  ·rename_i cs J;refine⟨_,_,h,λc ρ w e m C=>?_⟩;have h3:=VR.cells (m x) J;have:jE P (do pure (.value (<-Instr.box t (e x)))) c ρ w (.ptr H.n 0 0 0) (H.new (.cells cs (.ty t))):=by
    refine(gg.row (mk:=λa=> .pointer (M a)) (el:=t) C h3 (AV.mC J) ?_ λρ' L=>by simp only[VR];exact⟨_,_,L,rfl⟩).next;simp[Instr.box,newVar,newRow]
   simpa [execOp,D]using this
  ·exact zR
 case h_6 t parts D=>
  split at h
  ·rename_i a ha;refine⟨_,_,h,λc ρ w e m C=>?_⟩;obtain⟨v,E,F⟩:=LH hI ha (PR.of_map m parts.toList) w;have W:(parts.map λx=>(x.1,e x.2))=(parts.toList.map λp=>(p.1,e p.2)).toArray:=by apply k_;simp
   have:jE P (do pure (.value (<-Instr.build t (parts.map λx=>(x.1,e x.2))))) c ρ w a H:=by rw[W];exact(gg.same E C F).next
   simpa [execOp,D]using this
  ·exact zR
 case h_7 t len parts D=>
  obtain⟨a,H',E,F⟩:=xL hX hI h;refine⟨a,H',E,λc ρ w e m C=>?_⟩;have W:(parts.map λx=>(x.1,e x.2))=(parts.toList.map λp=>(p.1,e p.2)).toArray:=by apply k_;simp
  have:jE P (do pure (.value (<-Instr.buildSlice t len (parts.map λx=>(x.1,e x.2))))) c ρ w a H':=by rw[W];exact(F c ρ w _ (PR.of_map m parts.toList) C).next
  simpa [execOp,D]using this
 case h_8 t a D=>obtain⟨g,E,F⟩:=qC hX hI h;refine⟨g,H,E,λc ρ w e m C=>?_⟩;obtain⟨v,h3,h4⟩:=F c ρ w (e a) (m a) C;simpa [execOp,D]using(gg.same h3 C h4).next
 case h_9 x D=>
  have T:∀c ρ w (e:Operand->Value) a,ev x=a->(∀x,VR ρ (ev x) (e x))->Rel c ρ H w->((∃b,e x= .pointer (M b))∨(∃f us vs,e x= .func (.func f) us vs)∨∃l,e x= .func (.yield l) #[] #[])->jE P (execOp e o) c ρ w a H:=by intro c ρ w e a ha m C hv;refine⟨e x,w,ρ,?_,Ext.refl _,C,ha▸m x,oA.refl _⟩;rcases hv with⟨b,Y⟩|⟨f,us,vs,Y⟩|⟨l,Y⟩<;>simp[execOp,D,Y]
  split at h
  ·rename_i l k e j hx;refine⟨_,_,h,λc ρ w e m C=>T c ρ w e _ hx m C (.inl ?_)⟩;have:=m x;rw[hx]at this;simp only[VR]at this;obtain⟨b,N,_,E⟩:=this;exact⟨_,E⟩
  ·rename_i cs j hx;refine⟨_,_,h,λc ρ w e m C=>T c ρ w e _ hx m C (.inl ?_)⟩;have:=m x;rw[hx]at this;simp only[VR]at this;obtain⟨b,q,a6,E,_⟩:=this;exact⟨_,E⟩
  ·rename_i f as bs hx;refine⟨_,_,h,λc ρ w e m C=>T c ρ w e _ hx m C (.inr (.inl ?_))⟩;have:=m x;rw[hx]at this;simp only[VR]at this;obtain⟨us,vs,E,_⟩:=this;exact⟨_,_,_,E⟩
  ·rename_i l hx;refine⟨_,_,h,λc ρ w e m C=>T c ρ w e _ hx m C (.inr (.inr ?_))⟩;have:=m x;rw[hx]at this;simp only[VR]at this;obtain⟨b,N,_,E⟩:=this;exact⟨_,E⟩
  ·exact zR
 case h_10 op t x y yt D=>obtain⟨g,E,F⟩:=Uf hX hI h;refine⟨g,H,E,λc ρ w e m C=>?_⟩;obtain⟨r,h3,h4⟩:=F ρ w (e x) (e y) x y id (m x) (m y);have:=(gg.same h3 C h4).next;simpa [execOp,D]using this
 case h_11 op t x D=>obtain⟨g,E,F⟩:=Pn (P:=P) hX H h;exact⟨g,H,E,λc ρ w e m C=>by simpa [execOp,D]using nO F (m x) C⟩
 case h_12 s d x D=>obtain⟨g,H',E,F⟩:=En hX hI h;exact⟨g,H',E,λc ρ w e m C=>by simpa [execOp,D]using(F c ρ w (e x) (m x) C).next⟩
 case h_13 t x D=>
  split at h
  ·exact zR
  ·rename_i d hd Z;refine⟨_,_,h,λc ρ w e m C=>?_⟩;have:jE P (do pure (.value (<-Instr.makeInterface t (e x)))) c ρ w (.iface t (ev x)) H:=by
    refine(gg.same (v:=.iface t (e x)) ?_ C (by simp only[VR];exact⟨_,rfl,m x⟩)).next;refine run_makeInterface w t (e x) ?_;have:=hI.eI t d Z;unfold Program.concrete;rw[this];cases d<;>first|rfl|(exact absurd A (hd _))
   simpa [execOp,D]using this
  ·exact zR
 case h_14 f first cap D=>
  refine⟨_,_,h,λc ρ w e m C=>?_⟩;have:jE P (do pure (.value (<-Instr.makeFunc (.func f) (first.map e) (cap.map e)))) c ρ w (.fn f (first.toList.map ev) (cap.toList.map ev)) H:=by refine(gg.same (v:=.func (.func f) (first.map e) (cap.map e)) (by simp[Instr.makeFunc]) C ?_).next;simp only[VR];exact⟨first.toList.map e,cap.toList.map e,by congr 1<;>(apply k_;simp),aV.of_map m _,aV.of_map m _⟩
  simpa [execOp,D]using this
 case h_15 t D=>
  refine⟨_,_,h,λc ρ w e m C=>?_⟩;obtain⟨hx,aa⟩:=C.new (.map #[] 0) 0 (.map []) λw' ad=>⟨_,_,[],0,rfl,by simpa using ad,lx.mk rfl zH zH,λ_=>rfl⟩
  refine⟨.map (M w.heap.size),_,_,by simp[execOp,D,Instr.makeMap],hx,aa,by simp only[VR];exact⟨_,_,Env.da _ _ _,rfl⟩,oA.push _ _⟩
 case h_16 t l cc D=>obtain⟨g,H',E,F⟩:=A0 hX hI h;exact⟨g,H',E,λc ρ w e m C=>by simpa [execOp,D]using(F c ρ w (e l) (e cc) (m l) (m cc) C).next⟩
 case h_17 t x lo hi mx D=>obtain⟨g,E,F⟩:=Bl hX hI H h;refine⟨g,H,E,λc ρ w e m C=>?_⟩;obtain⟨u,h3,h4⟩:=F c ρ w (e x) (lo.map e) (hi.map e) (mx.map e) (m x) (mr m lo) (mr m hi) (mr m mx) C;simpa [execOp,D]using(gg.same h3 C h4).next
 case h_18 t x f D=>obtain⟨g,E,F⟩:=AY hX hI H h;exact⟨g,H,E,λc ρ w e m C=>by simpa [execOp,D]using nO F (m x) C⟩
 case h_19 t x f D=>obtain⟨g,E,F⟩:=LI hX hI H h;exact⟨g,H,E,λc ρ w e m C=>by simpa [execOp,D]using nO F (m x) C⟩
 case h_20 t x i D=>obtain⟨g,E,F⟩:=AZ hX hI H (xS hX h);exact⟨g,H,E,λc ρ w e m C=>by simpa [execOp,D]using pB F (m x) (m i) C⟩
 case h_21 t x i D=>obtain⟨g,E,F⟩:=LJ hX hI H h;exact⟨g,H,E,λc ρ w e m C=>by simpa [execOp,D]using pB F (m x) (m i) C⟩
 case h_22 t x i ok D=>obtain⟨g,E,F⟩:=wg hX hI h;exact⟨g,H,E,λc ρ w e m C=>by simpa [execOp,D]using pB F (m x) (m i) C⟩
 case h_23 x i D=>
  split at h
  ·rename_i vs hx;split at h
   ·rename_i a ha;refine⟨_,_,h,λc ρ w e m C=>?_⟩;have E:=m x;rw[hx]at E;simp only[VR]at E;obtain⟨us,F,h3⟩:=E;obtain⟨u,h4,h5⟩:=h3.get i ha;have:jE P (do pure (.value (<-Instr.extract (e x) i))) c ρ w a H:=(gg.same (v:=u) (by simp[Instr.extract,F,h4]) C h5).next;simpa [execOp,D]using this
   ·exact zR
  ·exact zR
 case h_24 args O D=>
  split at h
  ·rename_i x t hx ht;have ha:args= #[x]:=by apply k_;simpa using hx
   have ap:O= #[t]:=by apply k_;simpa using ht
   subst ha ap;obtain⟨g,E,F⟩:=J0 hX hI h #[t] rfl o.type;refine⟨g,H,E,λc ρ w e m C=>?_⟩;have:=nO F (m x) C;simpa [execOp,D,resolve,invoke,builtin]using this
  ·exact zR
 case h_25 args O D=>
  split at h
  ·rename_i a ha;refine⟨_,_,h,λc ρ w e m C=>?_⟩;have hm:∃v,(Builtin.min_ O o.type (args.map e)).run P w= .ok v w/\VR ρ a v:=by
    have hl:(args.map e).toList=args.toList.map e:=zA;have G:=aV.of_map m args.toList;unfold Builtin.min_;rw[hl];generalize args.toList.map ev=as at ha G;generalize args.toList.map e=vs at G;unfold xm at ha;split at ha
    ·rename_i k x rest;simp only[aV]at G;obtain⟨u,us,rfl,E,F⟩:=G;simp only[VR]at E;subst E;simpa using vc (mx:=false) w ha F
    ·cases ha
   obtain⟨v,E,F⟩:=hm;have:jE P (do pure (.value (<-Builtin.min_ O o.type (args.map e)))) c ρ w a H:=(gg.same E C F).next;simpa [execOp,D,resolve,invoke,builtin]using this
  ·exact zR
 case h_26 args O D=>
  split at h
  ·rename_i a ha;refine⟨_,_,h,λc ρ w e m C=>?_⟩;have hm:∃v,(Builtin.max_ O o.type (args.map e)).run P w= .ok v w/\VR ρ a v:=by
    have hl:(args.map e).toList=args.toList.map e:=zA;have G:=aV.of_map m args.toList;unfold Builtin.max_;rw[hl];generalize args.toList.map ev=as at ha G;generalize args.toList.map e=vs at G;unfold xm at ha;split at ha
    ·rename_i k x rest;simp only[aV]at G;obtain⟨u,us,rfl,E,F⟩:=G;simp only[VR]at E;subst E;simpa using vc (mx:=true) w ha F
    ·cases ha
   obtain⟨v,E,F⟩:=hm;have:jE P (do pure (.value (<-Builtin.max_ O o.type (args.map e)))) c ρ w a H:=(gg.same E C F).next;simpa [execOp,D,resolve,invoke,builtin]using this
  ·exact zR
 case h_27=>exact zR
end
end
section
structure gu (r:Nat) (w w':World):Prop where
 other:∀k,k≠r->w'.heap[k]? =w.heap[k]?
 size:w'.heap.size=w.heap.size
 os:w'.os=w.os
 output:w'.output=w.output
 tape:w'.tape=w.tape
theorem gu.refl(r)(w):gu r w w:=⟨λ_ _=>rfl,rfl,rfl,rfl,rfl⟩
theorem gu.trans{r a b c}(h:gu r a b)(k:gu r b c):gu r a c :=
 ⟨λi hi=>(k.other i hi).trans (h.other i hi),k.size.trans h.size,k.os.trans h.os,k.output.trans h.output,k.tape.trans h.tape⟩
theorem CN(w)(r o)(v):gu r w (w.setCell ⟨r,o,a_⟩ v):=
 ⟨λk a=>by simp only[World.setCell,Q_];grind,by simp[World.setCell],rfl,rfl,rfl⟩
theorem j4{P r o}:∀(vs)(i)(w)(a:List Value)(el)(b),w.heap[r]? =M (.cells a.toArray el b)->o+i+vs.length<=a.length->
  (∀q,q<a.length->¬ (b.1<=q/\q<b.2))->(∀v∈vs,v.oneCell'=true)->
  ∃w',(storeCells ⟨r,o,a_⟩ vs i).run P w= .ok () w'/\w'.heap[r]? =M (.cells (a.take (o+i)++vs++a.drop (o+i+vs.length)).toArray el b)/\gu r w w'
 |[],i,w,a,el,b,h,_,_,_=>⟨w,by simp[storeCells],by simpa using h,gu.refl r w⟩
 |v::vs,i,w,a,el,b,h,hl,d,l=>by
  simp only[List.length_cons]at hl;have c:o+i<a.length:=O;have m:w.cell? ⟨r,o+i,a_⟩=M a[o+i]:=by simp only[World.cell?,h,F_,lu,if_false];rw[S_,oa c]
  have e:w.frozen? ⟨r,o+i,a_⟩=false:=by obtain⟨lo,hi⟩:=b;have f:=d (o+i) c;simp only[World.frozen?,h];simp only[Bool.and_eq_false_iff,je];simp only at f;omega
  have g:(w.setCell ⟨r,o+i,a_⟩ v).heap[r]? =M (.cells (a.set (o+i) v).toArray el b):=by simp only[World.setCell,Q_,if_true,h,Z_,F_,lu,if_false,List.setIfInBounds_toArray]
  obtain⟨w',n,j,k⟩:=j4 (P:=P) (r:=r) (o:=o) vs (i+1) _ (a.set (o+i) v) el b g zJ (by simpa using d) (by simp_all);refine⟨w',?_,?_,(CN w r (o+i) v).trans k⟩
  ·simp only[storeCells,Sem.run_bind,addr_add];rw[run_store P w _ v _ Y];simp_all
  ·rw[j];congr 2;have a1:o+(i+1)=o+i+1:=O;rw[a1,List.take_set,List.drop_set_of_lt O,List.take_succ_eq_append_getElem c,List.set_append_right _ _ zJ];simp[List.length_take,k? (Nat.le_of_lt c)];congr 1;omega
def Hr(b:Bool)(r a:List AV):List AV:=match r,a with
 |[.int o_ x],[.int o_ y]=>[.int o_ (bif b then x else y)]
 |_,_=>bif b then r else a
theorem LN(b)(r a):Hr b r a=bif b then r else a:=by
 unfold Hr
 grind
def aae.Xp(b:aae)(k e j:Nat)(c:List AV):Option (Bool×aae):=
 match b with
 | .cells cs a=>bif a.w then M (i_ (k*e+j+c.length<=cs.length),.cells (cs.take (k*e+j)++c++cs.drop (k*e+j+c.length)) a)else a_
 | .rows m d f a=>bif a.w then(if e=d/\j+c.length<=d then M (i_ (k<m),.rows m d (λi=>Hr (i==k) ((f k).take j++c++(f k).drop (j+c.length)) (f i)) a)else a_)else a_
 |_=>a_
def aae.put(b:aae)(k e j:Nat)(a:List AV):Option (Bool×aae):=b.un.Xp k e j a
theorem Ht{n e:Nat}{f:Nat->List AV}(h:∀i,i<n->(f i).length=e){k j:Nat}(o:k<n){a:List AV}(p:j+a.length<=e):
  rowsOf n (λi=>bif i==k then(f k).take j++a++(f k).drop (j+a.length)else f i)=(rowsOf n f).take (k*e+j)++a++(rowsOf n f).drop (k*e+j+a.length):=by
 induction n with
 |zero=>omega
 |succ n d=>
  have hl:=bD (n:=n) (e:=e) (f:=f) (λi hi=>h i O);rw[dF,dF];by_cases b:k<n
  ·have g:k*e+e<=n*e:=by
    have:=b_ e (O:k+1<=n);rw[s_]at this;exact this
   rw[d (λi hi=>h i O) b];have:(n==k)=false:=by simp;omega
   rw[this,cond_false,h_ O,K_ O];simp only[e_]
  ·have b:k=n:=by omega
   subst b;have c:rowsOf k (λi=>bif i==k then(f k).take j++a++(f k).drop (j+a.length)else f i)=rowsOf k f:=by
    unfold rowsOf;rw[x_,x_];congr 1;apply q_;intro i hi;have hi:=List.mem_range.1 hi;have:(i==k)=false:=by simp;omega
    rw[this,cond_false]
   rw[c];simp only[BEq.rfl,cond_true];rw[List.take_append,e?,hl];have l:k*e+j-k*e=j:=O;have m:k*e+j+a.length-k*e=j+a.length:=O;rw[l,m,m_ (O:(rowsOf k f).length<=k*e+j),y_ (O:(rowsOf k f).length<=k*e+j+a.length)];simp
theorem aE.store{ρ:Env}{P:Program}{w:World}{r N:Nat}{cs:List AV}{rw:Access}(h:aE ρ w (M (r,N)) cs rw)(a:rw.w=true){o:Nat}{c:List AV}{us:List Value}(hx:aV ρ c us)(l:∀u∈us,u.oneCell'=true)(hl:o+c.length<=cs.length):
  ∃w',(storeCells ⟨r,o,a_⟩ us).run P w= .ok () w'/\gu r w w'/\aE ρ w' (M (r,N)) (cs.take o++c++cs.drop (o+c.length)) rw:=by
 rcases h with⟨_,m⟩|⟨b,C,vs,rest,el,f,q,s,t,e4,i,D,E⟩
 ·cases m
 ·cases q;have j:=e4.length_eq;have d:=hx.length_eq;obtain⟨w',f1,F,y⟩:=j4 (P:=P) (o:=o) us 0 w (vs++rest) el f s zJ (by rw[t];exact i.w a) l;refine⟨w',f1,y,.inr ⟨_,_,vs.take o++us++vs.drop (o+us.length),rest,el,f,rfl,?_,?_,?_,i,λv G=>?_,λe=>by rw[e]at a;cases a⟩⟩
  grind
  grind
  ·rw[d];exact((e4.take o).append hx).append (e4.drop _)
  grind
section
variable {R:Type} {X:RI R} {sem:R->Prop} (hX:X.Ok sem) {I:bg} {P:Program} (hI:I.Ok P)
def vd(X:RI R)(I:bg)(t:TypeId)(p v:AV)(H:AH)(K:AH->R):R :=
 match p,v.cells?,I.size t with
 | .ptr l k e j,M xs,M n=>
  if xs.length=n/\xs.all q?=true then
   match(H.get l).put k e j xs with
   |some (ok,b)=>X.ag ok (K (H.set l b))
   |none=>X.fail
  else X.fail
 |_,_,_=>X.fail
theorem aae.Ug{ρ P w r N b q k e j l us}(h:bn ρ w (M (r,N)) b)(c:b.Xp k e j l=M (true,q))(hx:aV ρ l us)(s:l.all q?=true):
  b.rw=true/\∃w',(storeCells ⟨r,k*e+j,a_⟩ us).run P w= .ok () w'/\gu r w w'/\bn ρ w' (M (r,N)) q:=by
 unfold aae.Xp at c;simp only[LN]at c;split at c
 ·rename_i cs a;cases ha:a.w with
  |false=>grind
  |true=>
  rw[ha]at c;simp only[cond_true,gO,Prod.mk.injEq,bl]at c;obtain⟨hl,rfl⟩:=c;exact⟨ha,aE.store h ha hx (aV.Pc hx s) hl⟩
 ·rename_i m F f a;cases ha:a.w with
  |false=>grind
  |true=>
  rw[ha,cond_true]at c;split at c
  ·rename_i v;obtain⟨rfl,y⟩:=v;simp only[gO,Prod.mk.injEq,bl]at c;obtain⟨t,rfl⟩:=c;have C:k*e+e<=m*e:=by
    have:=b_ e (O:k+1<=m);rw[s_]at this;exact this
   have u:=bD h.1;obtain⟨w',f1,D,E⟩:=aE.store (P:=P) h.2 ha (o:=k*e+j) hx (aV.Pc hx s) O;refine⟨ha,w',f1,D,λi hi=>?_,?_⟩
   ·by_cases d:i=k
    ·subst d;simp[h.1 i t];omega
    ·have:(i==k)=false:=by simp[d]
     simp only[this,cond_false];exact h.1 i hi
   ·rw[Ht h.1 t y];exact E
  ·cases c
 ·cases c
theorem aae.Hu{ρ P w r N b c k e j a us}(h:bn ρ w (M (r,N)) b)(d:b.put k e j a=M (true,c))(hx:aV ρ a us)(f:a.all q?=true):
  b.rw=true/\∃w',(storeCells ⟨r,k*e+j,a_⟩ us).run P w= .ok () w'/\gu r w w'/\bn ρ w' (M (r,N)) c:=by
 rw[<-aae.WK];exact aae.Ug h.un d hx f
include hX hI in
theorem rI{t:TypeId}{p v:AV}{H:AH}{K:AH->R}(h:sem (vd X I t p v H K)):
  ∃H',sem (K H')/\∀c ρ w q o,VR ρ p q->VR ρ v o->Rel c ρ H w->∃w',(Instr.storeAt t q o).run P w= .ok () w'/\Rel c ρ H' w':=by
 unfold vd at h;split at h
 ·rename_i l k e j L n D E;split at h
  ·rename_i d;obtain⟨f,g⟩:=d;split at h
   ·rename_i ok b i;obtain⟨rfl,F⟩:=hX.ag _ _ h;refine⟨_,F,λc ρ w q o x G y=>?_⟩;simp only[VR]at x;obtain⟨r,N,C,rfl⟩:=x;have hx:=VR.cells G D;have a:=y.eB l;rw[C]at a;obtain⟨s,w',f1,m,J⟩:=aae.Hu (P:=P) a i hx g;have u:o.cells.size=n:=by rw[<-U_,<-hx.length_eq,f]
    refine⟨w',?_,y.gX b s C m.other m.size m.os m.output m.tape J⟩;simp only[Instr.storeAt,Instr.sureAddr,storeVar,Sem.run_bind,Sem.run_pure,Result.andThen_ok,hI.cm w E,u,ne_eq,not_true,if_false];exact f1
   ·exact zR
  ·exact zR
 ·exact zR
end
end
def gC(H:AH)(e:Nat):AV->Option (Bool×Nat×(Nat->List AV)×Bool)
 | .slice l base k len _ a=>
  if e=a/\0<e then
   match(H.get l).un with
   | .cells cs _=>M (i_ (base+k*e+len*e<=cs.length),len,λi=>(cs.drop (base+k*e+i*e)).take e,true)
   | .rows m b f _=>if b=e/\base=0 then M (i_ (k+len<=m),len,λi=>f (k+i),false)else a_
   |_=>a_
  else a_
 | .own l len a=>
  if e=a/\0<e then
   match(H.get l).un with
   | .cells cs _=>M (i_ (len*e<=cs.length),len,λi=>(cs.drop (i*e)).take e,true)
   | .rows m b f _=>if b=e then M (i_ (len<=m),len,f,false)else a_
   |_=>a_
  else a_
 | .aD=>if 0<e then M (true,0,λ_=>[],true)else a_
 | .ae len a f=>if e=a/\0<e then M (true,len,f,false)else a_
 | .str s=>if e=1 then M (true,s.length,λi=>[.int .u8 (s.getD i 0).toNat],false)else a_
 |_=>a_
def iT{n:Nat}{f g:Nat->List AV}(h:∀i,i<n->f i=g i):rowsOf n f=rowsOf n g:=by
 unfold rowsOf;rw[x_,x_];congr 1;exact q_ λi hi=>h i (List.mem_range.1 hi)
def jF{cs:List AV}{o e:Nat}(a:0<e):∀{n:Nat},o+n*e<=cs.length->rowsOf n (λi=>(cs.drop (o+i*e)).take e)=(cs.drop o).take (n*e)
 |0,_=>by simp[rowsOf]
 |n+1,h=>by rw[s_]at h;rw[dF,jF a O,s_,List.take_add,List.drop_drop]
def pC{m:Nat}{f:Nat->List AV}:∀{n k:Nat},k+n<=m->∃a b,rowsOf m f=a++rowsOf n (λi=>f (k+i))++b/\a=rowsOf k f
 |n,k,h=>by
  obtain⟨d,rfl⟩:∃d,m=k+n+d:=⟨m-(k+n),O⟩;refine⟨rowsOf k f,rowsOf d (λi=>f (k+n+i)),?_,rfl⟩;have add:∀a b (g:Nat->List AV),rowsOf (a+b) g=rowsOf a g++rowsOf b (λi=>g (a+i)):=by
   intro a b g
   induction b with
   |zero=>simp[rowsOf]
   |succ b c=>rw[<-n?,dF,c,dF,e_]
  rw[add (k+n) d f,add k n f]
def kG(a b:Nat)(g:Nat->List AV):rowsOf (a+b) g=rowsOf a g++rowsOf b (λi=>g (a+i)):=by
 induction b with
 |zero=>simp[rowsOf]
 |succ b c=>rw[<-n?,dF,c,dF,e_]
def aE.read{ρ:Env}{P:Program}{w:World}{r N:Nat}{cs:List AV}{rw:Access}(h:aE ρ w (M (r,N)) cs rw){o n:Nat}(hl:o+n<=cs.length):
  o+n<=N/\∃us:List Value,aV ρ ((cs.drop o).take n) us/\us.length=n/\(∀v∈us,v.oneCell'=true)/\∀d,(loadCells ⟨r,o,a_⟩ n).run P {w with drawn:=d}= .ok us.toArray {w with drawn:=d}:=by
 rcases h with⟨_,f⟩|⟨b,u,vs,rest,el,j,l,m,q,e4,y,s,C⟩
 ·cases f
 ·cases l;have c:=e4.length_eq;simp only[u_]at q;refine⟨O,(vs.drop o).take n,(e4.drop o).take n,by simp;omega,λv a=>s v (List.mem_of_mem_drop (List.mem_of_mem_take a)),λd=>?_⟩;have t:((vs.drop o).take n).length=n:=by simp;omega
  have key:=kF (P:=P) (w:={w with drawn:=d}) (us:=(vs.drop o).take n) (r:=r) (o:=o) λi v a=>by
   have hi:i<n:=by have:=(List.getElem?_eq_some_iff.1 a).1;omega
   rw[O_ hi,X_]at a;have:({w with drawn:=d}:World).heap[r]? =M (.cells (vs++rest).toArray el j):=m;simp only[World.cell?,this,F_,lu,if_false,S_];rw[List.getElem?_append_left O];exact a
  rw[t]at key;exact key
def kY{P:Program}{H:AH}{e:Nat}{x:AV}{len:Nat}{f:Nat->List AV}{cl:Bool}(h:gC H e x=M (true,len,f,cl)){c:fE}{ρ:Env}{w:World}{v:Value}(u:VR ρ x v)(hr:Rel c ρ H w):
  (∀i,i<len->(f i).length=e)/\(Builtin.lenOf v).run P w= .ok len w/\∀n,n<=len->∃us:List Value,aV ρ (rowsOf n f) us/\us.length=n*e/\(∀v∈us,v.oneCell'=true)/\∀d,(Builtin.firstCells e n v).run P {w with drawn:=d}= .ok us.toArray {w with drawn:=d}:=by
 cases x with
 |slice l base k p cap e'=>
  simp only[gC]at h;split at h
  ·rename_i T;obtain⟨rfl,G⟩:=T;simp only[VR]at u;obtain⟨b,N,cc,a,X,rfl,hl,y,_⟩:=u;have j:=(hr.eB l).un;rw[X]at j;split at h
   ·rename_i cs rw C;rw[C]at j;simp only[gO,Prod.mk.injEq,bl]at h;obtain⟨U,rfl,rfl,rfl⟩:=h;refine⟨λi hi=>?_,by simp[Builtin.lenOf],λn R=>?_⟩
    ·have:i*e+e<=p*e:=by
      have:=b_ e (O:i+1<=p);rw[s_]at this;exact this
     simp;omega
    ·by_cases J:n=0
     ·subst J;refine⟨[],by simp[rowsOf,aV],zA,zA,λd=>?_⟩;simp[Builtin.firstCells,loadCells,loadCellsFrom]
     ·obtain⟨rfl,_⟩:=y O;have a7:n*e<=p*e:=b_ e R;obtain⟨_,us,I,K,D,h3⟩:=aE.read (P:=P) j (o:=base+k*e) (n:=n*e) O;exact⟨us,by rw[jF G O];exact I,K,D,λd=>by simpa [Builtin.firstCells]using h3 d⟩
   ·rename_i m L g rw C;rw[C]at j;split at h
    ·rename_i hc;obtain⟨rfl,rfl⟩:=hc;simp only[gO,Prod.mk.injEq,bl]at h;obtain⟨U,rfl,rfl,rfl⟩:=h;refine⟨λi hi=>j.1 _ O,by simp[Builtin.lenOf],λn R=>?_⟩;by_cases J:n=0
     ·subst J;refine⟨[],by simp[rowsOf,aV],zA,zA,λd=>?_⟩;simp[Builtin.firstCells,loadCells,loadCellsFrom]
     ·obtain⟨rfl,_⟩:=y O;obtain⟨a,t,S,e3⟩:=pC (m:=m) (f:=g) (n:=n) (k:=k) O;have Y:a.length=k*L:=by rw[e3];exact bD λi hi=>j.1 i O
      have V:(rowsOf n λi=>g (k+i)).length=n*L:=bD λi hi=>j.1 _ O
      have Z:((rowsOf m g).drop (k*L)).take (n*L)=rowsOf n (λi=>g (k+i)):=by rw[S,e_,K_ O,y_ O,z_,h_ O,m_ O]
      obtain⟨_,us,I,K,D,h3⟩:=aE.read (P:=P) j.2 (o:=k*L) (n:=n*L) (by rw[S];simp;omega);rw[Z]at I;exact⟨us,I,K,D,λd=>by simpa [Builtin.firstCells]using h3 d⟩
    ·cases h
   ·cases h
  ·cases h
 |own l p e'=>
  simp only[gC]at h;split at h
  ·rename_i T;obtain⟨rfl,G⟩:=T;simp only[VR]at u;have j:=(hr.eB l).un;split at h
   ·rename_i cs rw C;rw[C]at j;simp only[gO,Prod.mk.injEq,bl]at h;obtain⟨U,rfl,rfl,rfl⟩:=h;refine⟨λi hi=>?_,?_,λn R=>?_⟩
    ·have:i*e+e<=p*e:=by
      have:=b_ e (O:i+1<=p);rw[s_]at this;exact this
     simp;omega
    ·rcases u with⟨rfl,rfl⟩|⟨_,_,_,_,rfl,_⟩<;>simp[Builtin.lenOf]
    ·rcases u with⟨rfl,rfl⟩|⟨b,N,cc,X,rfl,hl,y⟩
     ·have:n=0:=by omega
      subst this;exact⟨[],by simp[rowsOf,aV],zA,zA,λd=>by simp[Builtin.firstCells]⟩
     ·rw[X]at j;have a7:n*e<=p*e:=b_ e R;obtain⟨_,us,I,K,D,h3⟩:=aE.read (P:=P) j (o:=0) (n:=n*e) O;refine⟨us,?_,K,D,λd=>by simpa [Builtin.firstCells]using h3 d⟩;have:=jF (cs:=cs) (o:=0) G (n:=n) O;simp only[c_]at this;rw[this];exact I
   ·rename_i m L g rw C;rw[C]at j;split at h
    ·rename_i hc;subst hc;simp only[gO,Prod.mk.injEq,bl]at h;obtain⟨U,rfl,rfl,rfl⟩:=h;refine⟨λi hi=>j.1 _ O,?_,λn R=>?_⟩
     ·rcases u with⟨rfl,rfl⟩|⟨_,_,_,_,rfl,_⟩<;>simp[Builtin.lenOf]
     ·rcases u with⟨rfl,rfl⟩|⟨b,N,cc,X,rfl,hl,y⟩
      ·have:n=0:=by omega
       subst this;exact⟨[],by simp[rowsOf,aV],zA,zA,λd=>by simp[Builtin.firstCells]⟩
      ·rw[X]at j;obtain⟨a,t,S,e3⟩:=pC (m:=m) (f:=g) (n:=n) (k:=0) O;have Y:a=[]:=by rw[e3];rfl
       subst Y;simp only[z_,c_]at S
       replace S:rowsOf m g=rowsOf n g++t:=S
       have V:(rowsOf n g).length=n*L:=bD λi hi=>j.1 _ O
       obtain⟨_,us,I,K,D,h3⟩:=aE.read (P:=P) j.2 (o:=0) (n:=n*L) (by rw[S];simp;omega);refine⟨us,?_,K,D,λd=>by simpa [Builtin.firstCells]using h3 d⟩;rw[C_,S,h_ O,m_ O]at I;exact I
    ·cases h
   ·cases h
  ·cases h
 |ae p L g=>
  simp only[gC]at h;split at h
  ·rename_i T;obtain⟨rfl,G⟩:=T;simp only[gO,Prod.mk.injEq,true_and]at h;obtain⟨rfl,rfl,rfl⟩:=h;simp only[VR]at u;refine⟨λi hi=>?_,?_,λn R=>?_⟩
   ·rcases u with⟨rfl,_⟩|⟨b,q,cc,a,Q,rfl,hl,y⟩
    ·omega
    ·obtain⟨rfl,aa,E⟩:=y O;rw[(E i hi).2.length_eq];exact(E i hi).1
   ·rcases u with⟨rfl,rfl⟩|⟨_,_,_,_,_,rfl,_⟩<;>simp[Builtin.lenOf]
   ·by_cases J:n=0
    ·subst J;refine⟨[],by simp[rowsOf,aV],zA,zA,λd=>?_⟩;rcases u with⟨rfl,rfl⟩|⟨_,_,_,_,_,rfl,_⟩<;>simp[Builtin.firstCells,loadCells,loadCellsFrom]
    ·rcases u with⟨rfl,_⟩|⟨b,q,cc,a,Q,rfl,hl,y⟩
     ·omega
     obtain⟨rfl,aa,E⟩:=y O;have W:=aa.part (λi hi=>(E i hi).1) (k:=0) (m:=n) O;simp only[A_,I_,c_]at W;have ad:∀i,i<n->(g i).length=e:=λi hi=>by rw[(E i O).2.length_eq];exact(E i O).1
     have ap:=aV.flat (n:=n) λi hi=>aV.ext (Ext.rD ρ) _ _ (E i O).2
     have V:(rowsOf n g).length=n*e:=bD ad;have a6:((l_ n).flatMap Q).length=n*e:=by rw[<-ap.length_eq];exact V
     refine⟨(l_ n).flatMap Q,ap,a6,W.1,λd=>?_⟩;have key:=kF (P:=P) (w:={w with drawn:=d}) (us:=(l_ n).flatMap Q) (r:=b) (o:=q) λi v u=>tI.cell hr W i v u
     rw[a6]at key;simpa [Builtin.firstCells]using key
  ·cases h
 |aD=>
  simp only[gC]at h;split at h
  ·simp only[gO,Prod.mk.injEq,true_and]at h;obtain⟨rfl,rfl,rfl⟩:=h;simp only[VR]at u;subst u;refine⟨λi hi=>O,by simp[Builtin.lenOf],λn R=>⟨[],?_,?_,zA,λd=>?_⟩⟩
   ·have:n=0:=by omega
    subst this;simp[rowsOf,aV]
   ·have:n=0:=by omega
    simp[this]
   ·simp[Builtin.firstCells]
  ·cases h
 |str s=>
  simp only[gC]at h;split at h
  ·rename_i T;subst T;simp only[gO,Prod.mk.injEq,true_and]at h;obtain⟨rfl,rfl,rfl⟩:=h;simp only[VR]at u;subst u;have F:∀i,i<s.length->((λi=>[E_ .u8 (s.getD i 0).toNat]) i).length=1:=λi _=>rfl
   refine⟨F,by simp[Builtin.lenOf,ByteArray.size],λn R=>⟨(s.take n).map λb=>Y_ .u8 b.toNat,?_,by simp;omega,λv u=>by(simp only[List.mem_map]at u;obtain⟨_,_,rfl⟩:=u;rfl),λd=>?_⟩⟩
   ·refine aV.xK (by rw[bD (e:=1) (λi hi=>F i O)];simp;omega) λi a v I K=>?_
    have hi:i<n:=by have:=(List.getElem?_eq_some_iff.1 K).1;simp at this;omega
    rw[s7 (λi hi=>F i O) hi A]at I;cases I;simp only[List.getElem?_map,O_ hi,oa (O:i<s.length),Z_,gO]at K;subst K;simp[VR,M_,oa (O:i<s.length)]
   ·simp only[Builtin.firstCells,Sem.run_pure];congr 1;apply k_;simp[List.extract_eq_take_drop]
  ·cases h
 |_=>simp[gC]at h
section
theorem Rel.ZK{c ρ H w w'}(h:Rel c ρ H w){l r N}(b)(o:(H.get l).rw=true)(v:ρ l=M (r,N))(ht:gu r w w')
  (L:bn (ρ.put H.n (r,N)) w' (M (r,N)) b):Ext ρ (ρ.put H.n (r,N))/\Rel c (ρ.put H.n (r,N)) ((H.set l .dead).new b) w':=by
 have P:ρ H.n=a_:=h.top _ (dP _);have hx:=Env.pz (r,N) P;have Q:l≠H.n:=λe=>Y
 have m:∀i,i≠H.n->i≠l->((H.set l .dead).new b).get i=H.get i:=λi j s=>by rw[show H.n=(H.set l .dead).n from rfl]at j;rw[P_ _ _ j,AH.aL _ _ (λe=>s e.symm)]
 have G:((H.set l .dead).new b).get H.n=b:=AH.jY (H.set l .dead) b;have u:((H.set l .dead).new b).get l= .dead:=by rw[P_ _ _ zI];exact m? H .dead l
 have old:∀i,i≠H.n->i≠l->H.get i≠ .dead->∀y a,ρ i=M (y,a)->y≠r:=λi j s h3 y a e I=>by subst I;exact h3 (h.sep l i y N a (λe=>s e.symm) o v e)
 refine⟨hx,⟨λi=>?_,λi C q a R D d j s=>?_,λi q a d j=>?_,λk K=>?_,?_,ht.os.trans h.os,ht.output.trans h.output,ht.tape.trans h.tape,λi hi=>?_,λg S=>?_,λi q a E j=>?_,λi hi=>?_,λi hi=>?_,λk vs e=>?_,λi q a d j=>?_,h.tJ,h.sZ⟩⟩
 ·by_cases hi:i=H.n
  ·subst hi;rw[G,Env.da];exact L
  ·rw[Env.fe _ _ hi];by_cases f:i=l
   ·subst f;rw[u];trivial
   ·rw[m i hi f];by_cases E:H.get i= .dead
    ·rw[E];trivial
    ·exact bn.world (λy a e=>ht.other y Y) ((h.eB i).ext hx)
 ·by_cases hi:i=H.n
  ·subst hi;rw[Env.da]at j;cases j;have t:C≠H.n:=λe=>D e.symm
   rw[Env.fe _ _ t]at s
   grind
  ·rw[Env.fe _ _ hi]at j;by_cases f:i=l
   ·subst f;rw[u]at d;cases d
   ·rw[m i hi f]at d;have E:H.get i≠ .dead:=λe=>by rw[e]at d;cases d
    by_cases t:C=H.n
    ·subst t;rw[Env.da]at s;grind
    ·rw[Env.fe _ _ t]at s;by_cases F:C=l
     grind
     ·rw[m C t F];exact h.sep i C q a R D d j s
 ·by_cases hi:i=H.n
  ·subst hi;rw[Env.da]at j;cases j;exact h.iB l r N o v
  ·rw[Env.fe _ _ hi]at j;by_cases f:i=l
   ·subst f;rw[u]at d;cases d
   ·rw[m i hi f]at d;exact h.iB i q a d j
 ·obtain⟨j,s⟩:=h.gY k K;refine⟨j,?_⟩;rw[<-s];refine ht.other k λe=>?_
  subst e;exact K.elim (h.iB l k N o v) (h.hid l k N (λe=>by rw[e]at o;cases o) v)
 ·rw[ht.size];exact h.size
 ·have J:H.n+1<=i:=hi;rw[Env.fe _ _ O];exact h.top i O
 ·obtain⟨a,T⟩:=h.eZ g S;exact⟨a,hx _ _ T⟩
 ·by_cases hi:i=H.n
  ·subst hi;rw[Env.da]at j;cases j;exact h.hid l r N (λe=>by rw[e]at o;cases o) v
  ·rw[Env.fe _ _ hi]at j;by_cases f:i=l
   grind
   ·rw[m i hi f]at E;exact h.hid i q a E j
 ·obtain⟨j,s⟩:=h.env i hi;exact⟨by simp;omega,by rw[Env.fe _ _ O];exact s⟩
 ·have J:H.n+1<=i:=hi;have:=h.rG o;rw[m i O O];exact h.low i O
 ·obtain⟨el,U,V⟩:=h.sY k vs e;refine⟨el,U,(ht.other k λI=>?_).trans V⟩;subst I;have:=h.sy l k N o v;rw[Env.Xk,this]at e;cases e
 ·by_cases hi:i=H.n
  ·subst hi;rw[Env.da]at j;cases j;exact h.sy l r N o v
  ·rw[Env.fe _ _ hi]at j;by_cases f:i=l
   ·subst f;rw[u]at d;cases d
   ·rw[m i hi f]at d;exact h.sy i q a d j
theorem CP{c ρ w}{H:AH}{l b}(hl:l<H.n)(h:Rel c ρ (H.new b) w):Rel c ρ ((H.set l .dead).new b) w:=by
 refine(h.kill l).congr A λi=>?_
 rw[AH.gR,AH.bk,AH.bk,AH.gR];by_cases h1:i=H.n
 ·have :¬ i=l:=by omega
  simp_all
 simp_all
section
variable {R:Type} {X:RI R} {sem:R->Prop} (hX:X.Ok sem) {I:bg} {P:Program} (hI:I.Ok P)
def j5(bo:Option (List UInt8))(n1 b d:Nat)(f1 c:Nat->List AV)(e:Bool)(a:Access):aae :=
 match bo with|some f=> .str f a|none=>bif e then .cells (rowsOf n1 f1++rowsOf b c) a else .rows (n1+b) d (λi=>bif f_ i n1 then f1 i else c (i-n1)) a
def aae.acc:aae->Access
 | .cells _ a=>a
 | .rows _ _ _ a=>a
 | .str _ a=>a
 | .dead=> .ro
 | .map es=>match dZ es with|true=> .ro|false=> .wr
 |_=> .wr
theorem aae.Xq(b:aae):b.un.acc=b.acc:=by cases b<;>rfl
theorem aae.ZL(b:aae):b.acc.w=b.rw:=by
 cases b with
 |map es=>show(match dZ es with|true=>Access.ro|false=>Access.wr).w=!dZ es;cases dZ es<;>rfl
 |_=>rfl
def Access.meet(e:TypeId):Access->Access
 | .ty a=>bif g_ a e then .ty e else .wr
 |_=> .wr
theorem Access.xn{e}{a:Access}:a.meet e≠ .ro:=by
 unfold Access.meet
 grind
theorem Access.xo{e}{a:Access}{m}:a.meet e≠ .ex m:=by
 unfold Access.meet
 grind
theorem Access.xp{e b}{a:Access}(h:a.meet e= .ty b):e=b/\a= .ty e:=by
 unfold Access.meet at h;split at h
 ·rename_i c;cases d:g_ c e with
  |true=>simp_all
  |false=>rw[d]at h;cases h
 ·cases h
theorem sF.meet{a el e c N}(h:sF a el c N)(d:a.w=true):sF (a.meet e) el c N :=
 ⟨λ_=>h.w d,λf b=>by obtain⟨rfl,rfl⟩:=Access.xp b;exact h.ty _ A,λ_ b=>absurd b Access.xo⟩
theorem sF.fresh{a e N}(h:∀b,a= .ty b->e=b)(d:∀m,a≠ .ex m):sF a e (0,0) N:=⟨O,λb c=>h b c,by simp_all⟩
theorem A1(n1 a)(f1 f2):rowsOf (n1+a) (λi=>bif f_ i n1 then f1 i else f2 (i-n1))=rowsOf n1 f1++rowsOf a f2:=by
 rw[kG];congr 1
 ·exact iT λi hi=>by
   have:f_ i n1=true:=by rw[j_];exact hi
   rw[this];rfl
 ·exact iT λi hi=>by
   have:f_ (n1+i) n1=false:=by rw[n_];intro e;rw[j_]at e;omega
   grind
theorem Bq{ρ w bo r N n1 b d f1 c j a}(l:∀i,i<n1->(f1 i).length=d)(m:∀i,i<b->(c i).length=d)
  (h:aE ρ w (M (r,N)) (rowsOf n1 f1++rowsOf b c) a) (k:∀f,bo=M f->rowsOf n1 f1++rowsOf b c=byteCells f):bn ρ w (M (r,N)) (j5 bo n1 b d f1 c j a):=by
 unfold j5;cases bo with
 |some f=>show aE _ _ _ _ _;grind
 |none=>
 cases j with
 |true=>exact h
 |false=>
  refine⟨λi hi=>?_,by rw[A1];exact h⟩;by_cases g:i<n1
  ·have:f_ i n1=true:=by rw[j_];exact g
   grind
  ·have:f_ i n1=false:=by rw[n_];intro e;rw[j_]at e;omega
   grind
theorem wh{ρ w bo f f1 d e a}(c:∀b,bo=M b->rowsOf 0 f1++rowsOf 0 d=byteCells b):bn ρ w a_ (j5 bo 0 0 f f1 d e a):=by
 unfold j5;cases bo with
 |some b=>exact .inl ⟨(c b A).symm,rfl⟩
 |none=>
  cases e
  ·exact⟨O,.inl ⟨by simp[rowsOf],rfl⟩⟩
  ·exact .inl ⟨by simp[rowsOf],rfl⟩
def mG:AV->Option Nat
 | .own l _ _=>M l
 | .slice l 0 0 _ _ _=>M l
 |_=>a_
def Pp:TypeDesc->Bool
 | .slice _| .string=>true
 |_=>false
def rJ(X:RI R)(e:TypeId)(s:AV)(n a:Nat)(eB:Access->aae)(H:AH)(K:AV->AH->R):R :=
 match mG s with
 |some l=>match(H.get l).rw with
  |true=>K (.own H.n n a) ((H.set l .dead).new (eB ((H.get l).acc.meet e)))
  |false=>X.fail
 |none=>X.fail
def CQ(H:AH):AV->Option (Bool×List UInt8)
 | .aD=>M (true,[])
 | .own l n 1=>match H.get l with
  | .str b _=>M (i_ (n=b.length),b)
  |_=>a_
 | .slice l 0 0 n _ 1=>match H.get l with
  | .str b _=>M (i_ (n=b.length),b)
  |_=>a_
 |_=>a_
def tS(H:AH):AV->Option (Bool×List UInt8)
 | .aD=>M (true,[])
 | .str t=>M (true,t)
 | .own l n 1=>match H.get l with
  | .str b _=>M (i_ (n=b.length),b)
  | .cells cs _=>M ((cs.take n).all o?,(cs.take n).map g?)
  |_=>a_
 | .slice l 0 k n _ 1=>match H.get l with
  | .str b _=>M (true,(b.drop k).take n)
  | .cells cs _=>M (((cs.drop k).take n).all o?,((cs.drop k).take n).map g?)
  |_=>a_
 |_=>a_
def eD(I:bg)(e:TypeId)(a:Nat)(H:AH)(s x:AV):Bool×Option (List UInt8):=
 match a,I.eI e with
 |1,M (.int .u8)=>match CQ H s,tS H x with
  |some (b,c),M (d,f)=>(b&&d,M (dD c f))
  |_,_=>(true,a_)
 |_,_=>(true,a_)
theorem tT{cs}(h:cs.all o? =true):byteCells (cs.map g?)=cs:=by
 induction cs with
 |nil=>rfl
 |cons a cs c=>
  simp only[List.all_cons,ba]at h;have b:=c h.2;simp only[byteCells,d_,R_]at b⊢;refine congr (congrArg _ ?_) b;cases a with
  |int k n=>cases k<;>simp only[o?,lu,ba,bl,false_and]at h;simp only[g?,AV.intOf];congr 1;have:n.toNat<256:=O;simp[UInt8.toNat_ofNat',Nat.mod_eq_of_lt this];omega
  |_=>simp[o?]at h
theorem pF{H:AH}{x:AV}{n:Nat}{f:Nat->List AV}{c:Bool}{b:List UInt8}(h:gC H 1 x=M (true,n,f,c))(k:tS H x=M (true,b)):rowsOf n f=byteCells b:=by
 have cut:∀(cs:List AV)(o m:Nat),o+m<=cs.length->rowsOf m (λi=>(cs.drop (o+i*1)).take 1)=(cs.drop o).take m:=λcs o m p=>by
  have:=jF (cs:=cs) (o:=o) (e:=1) (n:=m) O O
  grind
 unfold tS at k;split at k
 ·cases k;simp only[gC]at h;rw[if_pos O]at h;cases h;rfl
 ·cases k;simp only[gC,if_true]at h;simp only[gO,Prod.mk.injEq,true_and]at h;obtain⟨rfl,rfl,rfl⟩:=h;exact lZ _
 ·rename_i l m;split at k
  ·rename_i g a d;simp only[gO,Prod.mk.injEq,bl]at k;obtain⟨rfl,rfl⟩:=k;simp only[gC,d,aae.un]at h;simp only[true_and,D_,if_true,gO,Prod.mk.injEq,bl]at h;obtain⟨_,rfl,rfl,rfl⟩:=h;exact lZ _
  ·rename_i cs a d;simp only[gO,Prod.mk.injEq]at k;obtain⟨k1,rfl⟩:=k;simp only[gC,d,aae.un]at h;simp only[true_and,D_,if_true,gO,Prod.mk.injEq,bl]at h;obtain⟨hl,rfl,rfl,rfl⟩:=h;have:=cut cs 0 m O;simp only[c_,C_]at this;rw[this,tT k1]
  ·cases k
 ·rename_i l kk m cap;split at k
  ·rename_i g a d;simp only[gO,Prod.mk.injEq,true_and]at k;subst k;simp only[gC,d,aae.un]at h;simp only[and_self,D_,if_true,gO,Prod.mk.injEq,bl]at h;obtain⟨hl,rfl,rfl,rfl⟩:=h;have:∀n,kk+n<=g.length->rowsOf n (λi=>fu g (kk+i))=byteCells ((g.drop kk).take n):=by
    intro n
    induction n with
    |zero=>intro _;rfl
    |succ n j=>intro q;rw[dF,j O,List.take_add_one,X_,oa O];show _=List.map _ (_++_);rw[p_];refine congr A ?_;simp[fu,M_,oa (O:kk+n<g.length)]
   exact this _ hl
  ·rename_i cs a d;simp only[gO,Prod.mk.injEq]at k;obtain⟨k1,rfl⟩:=k;simp only[gC,d,aae.un]at h;simp only[true_and,D_,if_true,gO,Prod.mk.injEq,bl]at h;obtain⟨hl,rfl,rfl,rfl⟩:=h;have:=cut cs kk m O;simp only[c_,Nat.mul_one]at this⊢;rw[this,tT k1]
  ·cases k
 ·cases k
theorem Hv{H x n f c b}(h:gC H 1 x=M (true,n,f,c))(k:CQ H x=M (true,b)):rowsOf n f=byteCells b:=by
 unfold CQ at k;split at k
 ·exact pF h k
 ·split at k
  ·rename_i d;exact pF h (by simp only[tS,d];exact k)
  ·cases k
 ·split at k
  ·rename_i m cap _ e a d;refine pF h ?_;simp only[gO,Prod.mk.injEq,bl]at k;obtain⟨rfl,rfl⟩:=k;simp only[tS,d,C_,List.take_length]
  ·cases k
 ·cases k
theorem byteCells_append(a b):byteCells (a++b)=byteCells a++byteCells b:=by simp[byteCells]
theorem CR{I e a H s x n1 d f1 f c1 c2}(g:gC H a s=M (true,n1,f1,c1))(i:gC H a x=M (true,d,f,c2))(h:(eD I e a H s x).1=true):
  ∀c,(eD I e a H s x).2=M c->rowsOf n1 f1++rowsOf d f=byteCells c:=by
 intro c b;unfold eD at h b;split at h
 ·rename_i j;simp only[j]at b;split at h
  ·rename_i m k n l k1 k2;simp only[k1,k2,gO]at b;simp only[ba]at h;obtain⟨rfl,rfl⟩:=h;rw[<-b];show _=byteCells (k++l);rw[byteCells_append,Hv g k1,pF i k2]
  grind
 grind
def CS(X:RI R)(I:bg)(i j:TypeId)(s x:AV)(H:AH)(K:AV->AH->R):R :=
 match I.eI i,I.eI j with
 |some (.slice e),M m=>
  match I.size e,I.bytes e,(I.zero e).bind j?,(Pp m)with
  |some a,M d,M zs,true=>
   if zs.length=a then
   match gC H a s,gC H a x with
   |some (f,n1,f1,c1),M (g,c,f2,c2)=>
    X.ag (f&&g&&i_ (0<d)&&i_ ((n1+c)*d<=140737488355328)&&(eD I e a H s x).1)
     (match s with
      | .aD=>K (.own H.n c a) (H.new (j5 (eD I e a H s x).2 n1 c a f1 f2 (c1&&c2) (.ty e)))
      | .slice l b k len (M h) es=>X.cond (i_ (c=0)) (λ_=>K (.slice l b k len (M h) es) H)
        (λ_=>X.cond (i_ (h=len)) (λ_=>K (.own H.n (n1+c) a) (H.new (j5 (eD I e a H s x).2 n1 c a f1 f2 (c1&&c2) (.ty e)))) (λ_=>rJ X e (.slice l b k len (M h) es) (n1+c) a (j5 (eD I e a H s x).2 n1 c a f1 f2 (c1&&c2)) H K))
      | .slice l b k len a_ es=>X.cond (i_ (c=0)) (λ_=>K (.slice l b k len a_ es) H)
        (λ_=>rJ X e (.slice l b k len a_ es) (n1+c) a (j5 (eD I e a H s x).2 n1 c a f1 f2 (c1&&c2)) H K)
      |s=>rJ X e s (n1+c) a (j5 (eD I e a H s x).2 n1 c a f1 f2 (c1&&c2)) H K)
   |_,_=>X.fail
   else X.fail
  |_,_,_,_=>X.fail
 |_,_=>X.fail
include hI in
theorem qG{m q e:TypeId}{o:TypeDesc}{g j:Nat}{zs:List AV}(v:I.eI m=M (.slice e))(U:I.eI q=M o)(h3:I.size e=M g)(h4:I.bytes e=M j)(Q:(I.zero e).bind j? =M zs)(D:zs.length=g)
  (V:(Pp o)=true) (h7:0<j) {n1 f:Nat} (W:(n1+f)*j<=140737488355328) {c:Option Addr} {cap:Nat} {p:Value} {us vs:List Value} (w:World)
  (x:(Builtin.lenOf p).run P w= .ok f w) (R:∀d,(Builtin.firstCells g n1 (.slice c n1 cap)).run P {w with drawn:=d}= .ok us.toArray {w with drawn:=d}) (E:∀d,(Builtin.firstCells g f p).run P {w with drawn:=d}= .ok vs.toArray {w with drawn:=d}) (ty:TypeId):
  (cap<n1+f->∃(F:Nat)(rest:List Value),n1+f<=F/\rest.length=(F-(n1+f))*g/\(Builtin.append_ #[m,q] ty #[.slice c n1 cap,p]).run P w= .ok (.slice (M ⟨w.heap.size,0,a_⟩) (n1+f) F) {w with drawn:=w.drawn+1,heap:=w.heap.push (.cells (us++vs++rest).toArray e)})/\
  (n1+f<=cap->(Builtin.append_ #[m,q] ty #[.slice c n1 cap,p]).run P w=
   ((match c with|some a=>storeCells (a.add (n1*g)) vs|none=>pure ():Sem Unit).run P w).andThen λ_ w'=> .ok (.slice c (n1+f) cap) w'):=by
 simp only[v_]at Q;obtain⟨b,G,H⟩:=Q;obtain⟨i,J,g1,g2,g3⟩:=hI.zero e b G;obtain⟨i',g4,y⟩:=hI.size e g h3;obtain⟨X,S,Y⟩:=hI.bytes e j h4;rw[g1]at g4 S;cases g4;cases S;have k:=VR.cells (mB ⟨λ_=>a_,λ_=>a_⟩ J b g3) H;have K:J.cells.size=g:=by rw[<-U_,<-k.length_eq,D]
 have n:(Builtin.firstCells g f p).run P w= .ok vs.toArray w:=E w.drawn;have C:P.underlying q=M o:=hI.eI q _ U;have r:(∃L,o= .slice L)∨o= .string:=by cases o<;>first|exact .inl ⟨_,rfl⟩|exact .inr A|(simp[Pp]at V)
 constructor
 ·intro N;have l :¬ (281474976710656<Builtin.nextslicecap (n1+f) cap*i.bytes):=by
   have:=growslice_fits (need:=n1+f) (old:=cap) (bytes:=i.bytes) N (by rw[Y];exact W);omega
  refine⟨grownCap w (n1+f) cap e,(Builtin.zeroCells J.cells (grownCap w (n1+f) cap e-(n1+f))).toList,grownCap_ge _ _ _ _,by simp[Builtin.zeroCells,K],?_⟩;have h :¬ (n1+f<=cap):=O;have s :¬ i.bytes=0:=O;have T:∀Z:Array Value,us.toArray++(vs.toArray++Z)=(us++(vs++Z.toList)).toArray:=λZ=>by apply k_;simp
  have t:(Builtin.firstCells g n1 (.slice c n1 cap)).run P w.drew= .ok us.toArray w.drew:=R (w.drawn+1);have u:(Builtin.firstCells g f p).run P w.drew= .ok vs.toArray w.drew:=E (w.drawn+1);clear R E n;rcases r with⟨L,rfl⟩|rfl
  ·simp[Builtin.append_,run_underlying (hI.eI m _ v),run_underlying C,sizeOf,typeInfo,zeroValue,g1,g2,y,x,h,s,l,Question.forced,t,u,newRow,grownCap];rw[T];rfl
  ·simp[Builtin.append_,run_underlying (hI.eI m _ v),run_underlying C,sizeOf,typeInfo,zeroValue,g1,g2,y,x,h,s,l,Question.forced,t,u,newRow,grownCap];rw[T];rfl
 ·intro h;rcases r with⟨L,rfl⟩|rfl
  ·cases c<;>simp[Builtin.append_,run_underlying (hI.eI m _ v),run_underlying C,sizeOf,typeInfo,g1,y,x,h,n]
  ·cases c<;>simp[Builtin.append_,run_underlying (hI.eI m _ v),run_underlying C,sizeOf,typeInfo,g1,y,x,h,n]
theorem aE.pre{ρ:Env}{w:World}{r N:Nat}{a b:List AV}{rw:Access}(h:aE ρ w (M (r,N)) (a++b) rw):aE ρ w (M (r,N)) a rw:=by
 rcases h with⟨_,c⟩|⟨d,f,vs,rest,el,i,j,l,q,e4,m,s,o⟩
 ·cases c
 ·have hl:=e4.length_eq;simp only[u_]at hl;refine .inr ⟨d,f,vs.take a.length,vs.drop a.length++rest,el,i,j,?_,?_,?_,m,λv t=>Y,λe=>by rw[<-e_,B_];exact o e⟩
  ·rw[<-e_,B_];exact l
  grind
  ·have:=e4.take a.length
   grind
theorem LO{H e l x len f C}(h:gC H e x=M (true,len,f,C))(p:mG x=M l){ρ w r N}(d:bn ρ w (M (r,N)) (H.get l)):
  aE ρ w (M (r,N)) (rowsOf len f) (H.get l).acc:=by
 rw[<-aae.Xq]
 replace d:=d.un
 have key:∀(cs:List AV)(rw:Access),0<e->len*e<=cs.length->aE ρ w (M (r,N)) cs rw->aE ρ w (M (r,N)) (rowsOf len λi=>(cs.drop (i*e)).take e) rw:=by intro cs rw q hl s;have:=jF (cs:=cs) (o:=0) q (n:=len) O;simp only[c_]at this;rw[this,C_];rw[<-B_ (len*e) cs]at s;exact s.pre
 have j:∀(m:Nat)(g:Nat->List AV)(rw:Access),len<=m->aE ρ w (M (r,N)) (rowsOf m g) rw->aE ρ w (M (r,N)) (rowsOf len g) rw:=by
  intro m g rw hl s;obtain⟨a,t,y,D⟩:=pC (m:=m) (f:=g) (n:=len) (k:=0) O;have v:a=[]:=by rw[D];rfl
  subst v;simp only[z_,c_]at y;rw[y]at s;exact s.pre
 unfold mG at p;split at p
 ·rename_i E u F;cases p;simp only[gC]at h;split at h
  ·rename_i q;split at h
   ·rename_i cs rw b;rw[b]at d⊢;simp only[gO,Prod.mk.injEq,bl]at h;obtain⟨c,rfl,rfl,rfl⟩:=h;exact key cs rw q.2 c d
   ·rename_i m G g rw b;rw[b]at d⊢;split at h
    ·simp only[gO,Prod.mk.injEq,bl]at h;obtain⟨c,rfl,rfl,rfl⟩:=h;exact j m g rw c d.2
    ·cases h
   ·cases h
  ·cases h
 ·rename_i E u I F;cases p;simp only[gC]at h;split at h
  ·rename_i q;split at h
   ·rename_i cs rw b;rw[b]at d⊢;simp only[gO,Prod.mk.injEq,bl,A_,c_]at h;obtain⟨c,rfl,rfl,rfl⟩:=h;exact key cs rw q.2 c d
   ·rename_i m G g rw b;rw[b]at d⊢;split at h
    ·simp only[gO,Prod.mk.injEq,bl,c_]at h;obtain⟨c,rfl,rfl,rfl⟩:=h;exact j m g rw c d.2
    ·cases h
   ·cases h
  ·cases h
 ·cases p
theorem Rel.J4{c ρ H w}(h:Rel c ρ H w)(b)(s:bn ρ w a_ b):Rel c ρ (H.new b) w:=by
 have t:ρ H.n= .none:=h.top _ (dP _);refine⟨λl=>?_,λl o r a u i d f j=>?_,λl r a d f=>?_,h.gY,h.size,h.os,h.output,h.tape,λl hl=>h.top l (by simp at hl;omega),h.eZ,λl r a q f=>?_,λl hl=>?_,λl hl=>by rw[P_ _ _ (by simp at hl;omega)];exact h.low l (by simp at hl;omega),h.sY,λl r a d f=>?_,h.tJ,h.sZ⟩
 ·by_cases hl:l=H.n
  ·subst hl;rw[AH.jY,t];exact s
  ·rw[P_ _ _ hl];exact h.eB l
 ·have hl:l≠H.n:=λe=>by grind
  have m:o≠H.n:=λe=>Y
  rw[P_ _ _ hl]at d;rw[P_ _ _ m];exact h.sep l o r a u i d f j
 ·have hl:l≠H.n:=λe=>by grind
  rw[P_ _ _ hl]at d;exact h.iB l r a d f
 ·have hl:l≠H.n:=λe=>by grind
  rw[P_ _ _ hl]at q;exact h.hid l r a q f
 ·obtain⟨f,j⟩:=h.env l hl;exact⟨by simp;omega,j⟩
 ·have hl:l≠H.n:=λe=>by grind
  rw[P_ _ _ hl]at d;exact h.sy l r a d f
theorem Rel.Uh{c ρ H w}(h:Rel c ρ H w){l}(b)(hl:ρ l=a_)(t:bn ρ w a_ b)(u:l<H.n):Rel c ρ (H.set l b) w:=by
 have d:∀i,i≠l->(H.set l b).get i=H.get i:=λi e=>AH.aL _ _ (λv=>e v.symm)
 refine⟨λi=>?_,λi o r a y q f j C=>?_,λi r a f j=>?_,h.gY,h.size,h.os,h.output,h.tape,λi hi=>h.top i (by simpa using hi),h.eZ,λi r a s j=>?_,λi hi=>by simpa using h.env i hi,λi hi=>by rw[d i (by simp at hi;omega)];exact h.low i (by simpa using hi),h.sY,λi r a f j=>?_,h.tJ,h.sZ⟩
 ·by_cases e:i=l
  ·subst e;rw[m?,hl];exact t
  ·rw[d i e];exact h.eB i
 ·have m:i≠l:=λe=>by grind
  have D:o≠l:=λe=>Y
  rw[d i m]at f;rw[d o D];exact h.sep i o r a y q f j C
 ·have m:i≠l:=λe=>by grind
  rw[d i m]at f;exact h.iB i r a f j
 ·have m:i≠l:=λe=>by grind
  rw[d i m]at s;exact h.hid i r a s j
 ·have m:i≠l:=λe=>by grind
  rw[d i m]at f;exact h.sy i r a f j
theorem xT(hX:X.Ok sem){e s n a eB H K}(h:sem (rJ X e s n a eB H K)):
  ∃l,mG s=M l/\(H.get l).rw=true/\sem (K (.own H.n n a) ((H.set l .dead).new (eB ((H.get l).acc.meet e)))):=by
 unfold rJ at h;split at h
 ·rename_i l hl;split at h
  grind
  ·exact zR
 ·exact zR
include hX hI in
theorem Hw{st xt:TypeId}{s x:AV}{H:AH}{K:AV->AH->R}(h:sem (CS X I st xt s x H K)):
  ∃a H',sem (K a H')/\∀c ρ w U j ty,VR ρ s U->VR ρ x j->Rel c ρ H w->∃G w' ρ',(Builtin.append_ #[st,xt] ty #[U,j]).run P w= .ok G w'/\Ext ρ ρ'/\Rel c ρ' H' w'/\VR ρ' a G:=by
 unfold CS at h;split at h
 ·rename_i e xd bs b0;split at h
  ·rename_i u ek zs b5 b6 hz b7;split at h
   ·rename_i b8;split at h
    ·rename_i en n1 f1 c1 eo y f2 c2 f ap;obtain⟨cr,hK⟩:=hX.ag _ _ h;simp only[ba,bl]at cr;obtain⟨⟨⟨⟨rfl,rfl⟩,V⟩,W⟩,dk⟩:=cr;have a6:=CR f ap dk;have J:∀(d:Access),(∀e',d= .ty e'->e=e')->d≠ .ro->(∀m,d≠ .ex m)->∀c ρ w (q:Option Addr) (cap:Nat) j ty,VR ρ s (.slice q n1 cap)->VR ρ x j->Rel c ρ H w->cap<n1+y->
       ∃G w' ρ',(Builtin.append_ #[st,xt] ty #[.slice q n1 cap,j]).run P w= .ok G w'/\Ext ρ ρ'/\Rel c ρ' (H.new (j5 (eD I e u H s x).2 n1 y u f1 f2 (c1&&c2) d)) w'/\VR ρ' (.own H.n (n1+y) u) G:=by
      intro d hA dr dt c ρ w q cap j ty i hx g b9;obtain⟨l1,_,r1⟩:=kY (P:=P) f i g;obtain⟨l2,g2,r2⟩:=kY (P:=P) ap hx g;obtain⟨us,u1,u2,cd,u3⟩:=r1 n1 (dP _);obtain⟨vs,v1,v2,Y,v3⟩:=r2 y (dP _);obtain⟨nc,rest,a1,a2,a3⟩:=(qG hI bs b0 b5 b6 hz b8 b7 V W w g2 u3 v3 ty).1 b9;have dv:=g.drawn (w.drawn+1);have Z:=Env.pz (w.heap.size,nc*u) (g.top _ (dP H.n));have hN:(us++vs++rest).length=nc*u:=by simp only[u_,u2,v2,a2];rw[<-L_,<-L_];congr 1;omega
      obtain⟨cf,cg⟩:=dv.new (.cells (us++vs++rest).toArray e) (nc*u) (j5 (eD I e u H s x).2 n1 y u f1 f2 (c1&&c2) d) λw' ea=>
       Bq l1 l2 (.inr ⟨_,_,us++vs,rest,e,(0,0),rfl,ea,hN,(aV.ext Z _ _ u1).append (aV.ext Z _ _ v1),sF.fresh hA dt,λv hv=>(List.mem_append.1 hv).elim (cd v) (Y v),λe=>absurd e dr⟩) a6
      exact⟨_,_,_,a3,cf,cg,by simp only[VR];exact .inr ⟨_,_,nc,Env.da _ _ _,rfl,a1,dP _⟩⟩
     have both:∀l,mG s=M l->(H.get l).rw=true->∀c ρ w (r N cap:Nat) j ty,ρ l=M (r,N)->cap*u<=N->VR ρ s (.slice (M ⟨r,0,a_⟩) n1 cap)->VR ρ x j->Rel c ρ H w->
       ∃G w' ρ',(Builtin.append_ #[st,xt] ty #[.slice (M ⟨r,0,a_⟩) n1 cap,j]).run P w= .ok G w'/\Ext ρ ρ'/\Rel c ρ' ((H.set l .dead).new (j5 (eD I e u H s x).2 n1 y u f1 f2 (c1&&c2) ((H.get l).acc.meet e))) w'/\VR ρ' (.own H.n (n1+y) u) G:=by
      intro l hl D c ρ w r N cap j ty cv S i hx g;have hw:(H.get l).acc.w=true:=by rw[aae.ZL];exact D
      by_cases b9:cap<n1+y
      ·obtain⟨G,w',ρ',b1,b2,b3,b4⟩:=J _ (λ_ h=>(Access.xp h).1) Access.xn (λ_=>Access.xo) c ρ w _ cap j ty i hx g b9;exact⟨G,w',ρ',b1,b2,CP (g.rG D) b3,b4⟩
      ·obtain⟨l1,_,r1⟩:=kY (P:=P) f i g;obtain⟨l2,g2,r2⟩:=kY (P:=P) ap hx g;obtain⟨us,u1,u2,cd,u3⟩:=r1 n1 (dP _);obtain⟨vs,v1,v2,Y,v3⟩:=r2 y (dP _);have a3:=(qG hI bs b0 b5 b6 hz b8 b7 V W w g2 u3 v3 ty).2 O;have hb:=g.eB l;rw[cv]at hb;have cx:=LO f hl hb;have ep:=bD l1;rcases cx with⟨_,h0⟩|⟨b',N',ws,rest,el,fr,e1,e2,e3,e4,e5,e6,e7⟩
       ·cases h0
       ·cases e1;have er:=e4.length_eq;have E:(n1+y)*u<=N:=T_ (b_ u O) S;rw[L_]at E;obtain⟨w',eb,ed,ee⟩:=j4 (P:=P) (o:=n1*u) vs 0 w (ws++rest) el fr e2 O (by rw[e3];exact e5.w hw) Y;have Z:Ext ρ (ρ.put H.n (r,N)):=Env.pz _ (g.top _ (dP _));have ch:aE (ρ.put H.n (r,N)) w' (M (r,N)) (rowsOf n1 f1++rowsOf y f2) ((H.get l).acc.meet e):=by
         refine .inr ⟨r,N,ws++vs,rest.drop (y*u),el,fr,rfl,?_,?_,(aV.ext Z _ _ e4).append (aV.ext Z _ _ v1),e5.meet hw,λv hv=>(List.mem_append.1 hv).elim (e6 v) (Y v),λe=>absurd e Access.xn⟩
         ·rw[ed];congr 2;simp only[I_];have hq:n1*u+vs.length-ws.length=y*u:=O;rw[h_ O,m_ O,e?,y_ (O:ws.length<=n1*u+vs.length),z_,hq]
         ·simp only[u_,List.length_drop]at e3⊢;omega
        obtain⟨cf,cg⟩:=g.ZK (j5 (eD I e u H s x).2 n1 y u f1 f2 (c1&&c2) ((H.get l).acc.meet e)) D cv ee (Bq l1 l2 ch a6);refine⟨_,w',_,?_,cf,cg,by simp only[VR];exact .inr ⟨r,N,cap,Env.da _ _ _,rfl,O,S⟩⟩;rw[a3];simp only[addr_add,c_,eb,Result.andThen_ok]
     have Q:∀c ρ w v,VR ρ s v->Rel c ρ H w->(Builtin.lenOf v).run P w= .ok n1 w:=λc ρ w v hv g=>(kY (P:=P) f hv g).2.1
     have same:y=0->∀c ρ w (q:Option Addr) (cap:Nat) j ty,n1<=cap->VR ρ s (.slice q n1 cap)->VR ρ x j->Rel c ρ H w->(Builtin.append_ #[st,xt] ty #[.slice q n1 cap,j]).run P w= .ok (.slice q n1 cap) w:=by
      intro h0 c ρ w q cap j ty E i hx g;subst h0;obtain⟨l1,_,r1⟩:=kY (P:=P) f i g;obtain⟨l2,g2,r2⟩:=kY (P:=P) ap hx g;obtain⟨us,u1,u2,cd,u3⟩:=r1 n1 (dP _);obtain⟨vs,v1,v2,Y,v3⟩:=r2 0 (dP _);have:vs=[]:=by
       cases vs with
       |nil=>rfl
       |cons v vs=>simp at v2
      subst this;have a3:=(qG hI bs b0 b5 b6 hz b8 b7 V W w g2 u3 v3 ty).2 O;rw[a3];cases q<;>simp[storeCells]
     have p:∀{l b k len:Nat}{cap:Option Nat}{e:Nat},s= .slice l b k len cap e->len=n1:=by
      intro l b k len cap e i;rw[i]at f;simp only[gC]at f;split at f
      ·split at f
       ·simp only[gO,Prod.mk.injEq]at f;exact f.2.1
       ·split at f
        ·simp only[gO,Prod.mk.injEq]at f;exact f.2.1
        ·cases f
       ·cases f
      ·cases f
     have a7:∀{l b k len:Nat}{cap:Option Nat}{e:Nat},s= .slice l b k len cap e->e=u:=by
      intro l b k len cap e i;rw[i]at f;simp only[gC]at f;split at f
      ·rename_i he;exact he.1.symm
      ·cases f
     have L:∀{l b k len:Nat}{cap:Option Nat}{es:Nat},s= .slice l b k len cap es->0<y->sem (rJ X e s (n1+y) u (j5 (eD I e u H s x).2 n1 y u f1 f2 (c1&&c2)) H K)->
       ∃a H',sem (K a H')/\∀c ρ w U j ty,VR ρ s U->VR ρ x j->Rel c ρ H w->∃G w' ρ',(Builtin.append_ #[st,xt] ty #[U,j]).run P w= .ok G w'/\Ext ρ ρ'/\Rel c ρ' H' w'/\VR ρ' a G:=by
      intro l b k len cap es i ej ef;obtain⟨l',C,D,hk⟩:=xT hX ef;refine⟨_,_,hk,λc ρ w U j ty bd hx g=>?_⟩;have c6:=p i;have he:=a7 i;have aa:=bd;rw[i]at aa C;unfold mG at C;split at C
      ·rename_i hq;cases hq
      ·rename_i l2 ad c7 e2 hq;cases hq;cases C;simp only[VR]at aa;obtain⟨b,N,cc,a,hb,rfl,E,T,_⟩:=aa;subst c6 he;by_cases eg:0<cc
       ·obtain⟨rfl,hN⟩:=T eg;simp only[A_,c_,I_]at hN bd⊢;exact both _ (by rw[i];rfl) D c ρ w b N cc j ty hb hN bd hx g
       ·obtain⟨G,w',ρ',b1,b2,b3,b4⟩:=J _ (λ_ h=>(Access.xp h).1) Access.xn (λ_=>Access.xo) c ρ w _ cc j ty bd hx g O;exact⟨G,w',ρ',b1,b2,CP (g.rG D) b3,b4⟩
      ·cases C
     split at hK
     ·
      refine⟨_,_,hK,λc ρ w U j ty i hx g=>?_⟩;have t:=i;simp only[VR]at t;subst t;have h0:n1=0:=by have:=Q c ρ w _ i g;simp[Builtin.lenOf]at this;exact this.symm
      subst h0;by_cases h2:y=0
      ·subst h2;refine⟨_,w,ρ,same A c ρ w a_ 0 j ty (dP _) i hx g,Ext.refl _,g.J4 _ (wh a6),by simp[VR]⟩
      ·have:=J (.ty e) (λ_ h=>by cases h;rfl) (λh=>zE) (λ_ h=>zE) c ρ w a_ 0 j ty i hx g O;simpa using this
     ·rename_i l b k len cp es;have F:=hX.cond _ _ _ hK;by_cases h2:y=0
      ·rw[bK h2,if_pos A]at F;refine⟨_,_,F,λc ρ w U j ty i hx g=>?_⟩;have t:=i;simp only[VR]at t;obtain⟨b',N,cc,a,hb,rfl,E,T,_⟩:=t;have:=p A;subst this;exact⟨_,w,ρ,same h2 c ρ w _ cc j ty E i hx g,Ext.refl _,g,i⟩
      ·rw[nJ h2,if_neg zA]at F;have bq:=hX.cond _ _ _ F;by_cases dd:cp=len
       ·rw[bK dd,if_pos A]at bq;refine⟨_,_,bq,λc ρ w U j ty i hx g=>?_⟩;have t:=i;simp only[VR]at t;obtain⟨b',N,cc,a,hb,rfl,E,T,S⟩:=t;have:=p A;subst this;have:=S _ A;exact J (.ty e) (λ_ h=>by cases h;rfl) (λh=>zE) (λ_ h=>zE) c ρ w _ cc j ty i hx g O
       ·rw[nJ dd,if_neg zA]at bq;exact L A O bq
     ·rename_i l b k len es;have F:=hX.cond _ _ _ hK;by_cases h2:y=0
      ·rw[bK h2,if_pos A]at F;refine⟨_,_,F,λc ρ w U j ty i hx g=>?_⟩;have t:=i;simp only[VR]at t;obtain⟨b',N,cc,a,hb,rfl,E,T,_⟩:=t;have:=p A;subst this;exact⟨_,w,ρ,same h2 c ρ w _ cc j ty E i hx g,Ext.refl _,g,i⟩
      ·rw[nJ h2,if_neg zA]at F;exact L A O F
     ·rename_i et eh ei;obtain⟨l',C,D,hk⟩:=xT hX hK;refine⟨_,_,hk,λc ρ w U j ty i hx g=>?_⟩;unfold mG at C;split at C
      ·rename_i l2 ad e2;cases C;have he:e2=u:=by
        simp only[gC]at f;split at f
        ·rename_i he;exact he.1.symm
        ·cases f
       have t:=i;simp only[VR]at t;rcases t with⟨rfl,rfl⟩|⟨b',N,cc,hb,rfl,E,T⟩
       ·have h0:n1=0:=by
         have:=Q c ρ w _ i g;simp[Builtin.lenOf]at this;exact this.symm
        subst h0;by_cases h2:y=0
        ·subst h2;refine⟨_,w,ρ,same A c ρ w a_ 0 j ty (dP _) i hx g,Ext.refl _,(g.kill _).J4 _ (wh a6),by simp[VR]⟩
        ·obtain⟨G,w',ρ',b1,b2,b3,b4⟩:=J _ (λ_ h=>(Access.xp h).1) Access.xn (λ_=>Access.xo) c ρ w a_ 0 j ty i hx g O;exact⟨G,w',ρ',b1,b2,CP (g.rG D) b3,b4⟩
       ·have h0:ad=n1:=by
         have:=Q c ρ w _ i g;simp[Builtin.lenOf]at this;exact this
        subst h0 he;exact both _ A D c ρ w b' N cc j ty hb T i hx g
      ·rename_i l2 ad c7 e2;cases c7 with
       |none=>exact absurd A (ei _ _ _ _ _)
       |some cp=>exact absurd A (eh _ _ _ _ _ _)
      ·cases C
    ·exact zR
   ·exact zR
  ·exact zR
 ·exact zR
end
end
section
def aae.Et(b:aae)(c k e n:Nat)(f:Nat->List AV):Option (Bool×aae):=
 match b with
 | .cells cs a=>bif a.w then M (i_ (c+k*e+n*e<=cs.length),.cells (cs.take (c+k*e)++rowsOf n f++cs.drop (c+k*e+n*e)) a)else a_
 | .rows m d g a=>bif a.w then(if e=d/\c=0 then M (i_ (k+n<=m),.rows m d (λi=>bif t_ k i&&f_ i (k+n)then f (i-k)else g i) a)else a_)else a_
 |_=>a_
def aae.Pq(b:aae)(a k e n:Nat)(f:Nat->List AV):Option (Bool×aae):=b.un.Et a k e n f
theorem Eu{m e:Nat}{g:Nat->List AV}(h:∀i,i<m->(g i).length=e){k n:Nat}{f:Nat->List AV}(j:k+n<=m)(hl:(rowsOf n f).length=n*e:=by assumption):
  rowsOf m (λi=>bif t_ k i&&f_ i (k+n)then f (i-k)else g i)=(rowsOf m g).take (k*e)++rowsOf n f++(rowsOf m g).drop (k*e+n*e):=by
 obtain⟨d,rfl⟩:∃d,m=k+n+d:=⟨m-(k+n),O⟩;have a:∀i,i<k->(bif t_ k i&&f_ i (k+n)then f (i-k)else g i)=g i:=λi hi=>by
  have:t_ k i=false:=by rw[n_];intro e;rw[N_]at e;omega
  rw[this];rfl
 have b:∀i,i<n->(bif t_ k (k+i)&&f_ (k+i) (k+n)then f (k+i-k)else g (k+i))=f i:=λi hi=>by
  have l:t_ k (k+i)=true:=by rw[N_];omega
  have o:f_ (k+i) (k+n)=true:=by rw[j_];omega
  grind
 have c:∀i,i<d->(bif t_ k (k+n+i)&&f_ (k+n+i) (k+n)then f (k+n+i-k)else g (k+n+i))=g (k+n+i):=λi hi=>by
  have:f_ (k+n+i) (k+n)=false:=by rw[n_];intro e;rw[j_]at e;omega
  grind
 rw[kG,kG,iT a,iT b,iT c,kG (k+n) d g,kG k n g];have l1:(rowsOf k g).length=k*e:=bD λi hi=>h i O
 have l2:(rowsOf n λi=>g (k+i)).length=n*e:=bD λi hi=>h _ O
 grind
theorem aae.Pr{ρ P w r N b v c k e n f us}(h:bn ρ w (M (r,N)) b)(D:∀i,i<n->(f i).length=e)
  (d:b.Et c k e n f=M (true,v)) (hx:aV ρ (rowsOf n f) us) (y:∀u∈us,u.oneCell'=true):
  b.rw=true/\∃w',(storeCells ⟨r,c+k*e,a_⟩ us).run P w= .ok () w'/\gu r w w'/\bn ρ w' (M (r,N)) v:=by
 have hl:=bD D;unfold aae.Et at d;split at d
 ·rename_i cs a;cases ha:a.w with
  |false=>grind
  |true=>
  rw[ha]at d;simp only[cond_true,gO,Prod.mk.injEq,bl]at d;obtain⟨q,rfl⟩:=d;obtain⟨w',f1,s,j⟩:=aE.store (P:=P) h ha (o:=c+k*e) hx y O;rw[hl]at j;exact⟨ha,w',f1,s,j⟩
 ·rename_i m F g a;cases ha:a.w with
  |false=>grind
  |true=>
  rw[ha,cond_true]at d;split at d
  ·rename_i l;obtain⟨rfl,rfl⟩:=l;simp only[gO,Prod.mk.injEq,bl]at d;obtain⟨C,rfl⟩:=d;have E:=bD h.1;have q:k*e+n*e<=m*e:=by rw[<-L_];exact b_ e C
   obtain⟨w',f1,s,j⟩:=aE.store (P:=P) h.2 ha (o:=k*e) hx y O;simp only[c_];refine⟨ha,w',f1,s,λi hi=>?_,by rw[Eu h.1 C,<-hl];exact j⟩;cases l:t_ k i&&f_ i (k+n)with
   |true=>
    have t:=l;simp only[ba,N_,j_]at t
    grind
   |false=>simp only[l,cond_false];exact h.1 i hi
  ·cases d
 ·cases d
theorem aae.Ui{ρ P w r N b c a k e n f us}(h:bn ρ w (M (r,N)) b)(d:∀i,i<n->(f i).length=e)
  (j:b.Pq a k e n f=M (true,c)) (hx:aV ρ (rowsOf n f) us) (l:∀u∈us,u.oneCell'=true):
  b.rw=true/\∃w',(storeCells ⟨r,a+k*e,a_⟩ us).run P w= .ok () w'/\gu r w w'/\bn ρ w' (M (r,N)) c:=by
 rw[<-aae.WK];exact aae.Pr h.un d j hx l
section
variable {R:Type} {X:RI R} {sem:R->Prop} (hX:X.Ok sem) {I:bg} {P:Program} (hI:I.Ok P)
def CT:AV->Option (Nat×Nat×Nat×Nat×Nat)
 | .slice l base k len _ e=>M (l,base,k,len,e)
 | .own l len e=>M (l,0,0,len,e)
 |_=>a_
def ta(X:RI R)(I:bg)(g:TypeId)(d x:AV)(H:AH)(K:AV->AH->R):R :=
 match I.eI g with
 |some (.slice e)=>
  match I.size e with
  |some a=>
   match CT d,gC H a x with
   |some (l,base,k,len,h),M (ok,n,f,_)=>
    if h=a then
     match(H.get l).Pq base k a (w_ n len) f with
     |some (c,b)=>X.ag (ok&&c) (K (.int o_ (w_ n len:Nat)) (H.set l b))
     |none=>X.fail
    else X.fail
   |_,_=>X.fail
  |none=>X.fail
 |_=>X.fail
include hX hI in
theorem rK{dt:TypeId}{d x:AV}{H:AH}{K:AV->AH->R}(h:sem (ta X I dt d x H K)):
  ∃a H',sem (K a H')/\∀c ρ w F u (S:Array TypeId) ty,S[0]? =M dt->VR ρ d F->VR ρ x u->Rel c ρ H w->∃v' w' ρ',(Builtin.copy_ S ty #[F,u]).run P w= .ok v' w'/\Ext ρ ρ'/\Rel c ρ' H' w'/\VR ρ' a v':=by
 unfold ta at h;split at h
 ·rename_i e T;split at h
  ·rename_i sz U;split at h
   ·rename_i l V k len e' ok n f cl W hv;split at h
    ·rename_i he;subst he;split at h
     ·rename_i b4 b o;obtain⟨Y,hK⟩:=hX.ag _ _ h;simp only[ba]at Y;obtain⟨rfl,rfl⟩:=Y;refine⟨_,_,hK,λc ρ w F u S ty Z s bd L=>?_⟩;obtain⟨l1,g1,r1⟩:=kY (P:=P) hv bd L;obtain⟨us,u1,u2,bq,u3⟩:=r1 (w_ n len) (l? _ _);have aa:=u3 w.drawn;have v:∀m:Nat,VR ρ (.int o_ (m:Nat)) (goInt m):=λm=>by simp only[VR];rfl
      have run:∀(a:Addr)(cap:Nat),F= .slice (M a) len cap->(Builtin.copy_ S ty #[F,u]).run P w=((storeCells a us).run P w).andThen λ_ w'=> .ok (goInt (w_ n len)) w':=by intro a cap s;subst s;have e1:(#[J_ (M a) len cap,u])[0]? =M (.slice (M a) len cap):=rfl;have Q:(#[J_ (M a) len cap,u])[1]? =M u:=rfl;simp only[Builtin.copy_,Z,e1,Q,Sem.run_bind,hI.aY w T,Result.andThen_ok,g1,hI.cm w U,aa,Sem.run_pure]
      have q:F= .slice a_ 0 0->len=0->(Builtin.copy_ S ty #[F,u]).run P w= .ok (goInt (w_ n len)) w:=by intro s ad;subst s ad;have e1:(#[J_ a_ 0 0,u])[0]? =M (.slice a_ 0 0):=rfl;have Q:(#[J_ a_ 0 0,u])[1]? =M u:=rfl;simp only[Builtin.copy_,Z,e1,Q,Sem.run_bind,hI.aY w T,Result.andThen_ok,g1,hI.cm w U,aa,Sem.run_pure]
      have zero:w_ n len=0->us=[]:=λC=>by rw[C,A_]at u2;exact List.eq_nil_of_length_eq_zero u2
      have wr:∀r N,ρ l=M (r,N)->∃w',(storeCells ⟨r,V+k*e',a_⟩ us).run P w= .ok () w'/\Rel c ρ (H.set l b) w':=by intro r N y;have j:=L.eB l;rw[y]at j;obtain⟨bs,w',f1,t,f3⟩:=aae.Ui (P:=P) j (λi hi=>l1 i (a? hi (l? _ _))) o u1 bq;exact⟨w',f1,L.gX b bs y t.other t.size t.os t.output t.tape f3⟩
      have G:w_ n len=0->ρ l=a_->Rel c ρ (H.set l b) w:=by
       intro C ap;have j:=L.eB l;rw[ap]at j;rw[C]at o;have b0:bn ρ w a_ b:=by
        replace j:=j.un
        unfold aae.Pq at o;unfold aae.Et at o;split at o
        ·rename_i cs a J;rw[J]at j;cases ha:a.w with
         |false=>rw[ha]at o;cases o
         |true=>
         rw[ha]at o;simp only[cond_true,gO,Prod.mk.injEq]at o;obtain⟨_,rfl⟩:=o;rcases j with⟨rfl,_⟩|⟨_,_,_,_,_,_,C,_⟩
         ·exact .inl ⟨by simp[rowsOf],rfl⟩
         ·cases C
        ·rename_i m Q g a J;rw[J]at j;cases ha:a.w with
         |false=>rw[ha]at o;cases o
         |true=>
         rw[ha,cond_true]at o;split at o
         ·simp only[gO,Prod.mk.injEq]at o;obtain⟨_,rfl⟩:=o;have e0:∀i,(bif t_ k i&&f_ i (k+0)then f (i-k)else g i)=g i:=λi=>by
           cases hc:t_ k i&&f_ i (k+0)with
           |true=>simp only[ba,N_,j_]at hc;omega
           |false=>rfl
          refine⟨λi hi=>by have:=e0 i;simp only[this];exact j.1 i hi,?_⟩;rw[iT λi _=>e0 i];exact j.2
         ·cases o
        ·cases o
       refine L.Uh b ap b0 (L.below λe=>?_);rw[e]at o;simp[aae.Pq,aae.Et,aae.un]at o
      unfold CT at W;split at W
      ·rename_i l2 b1 k2 a6 cp Q;cases W;have p:=s;simp only[VR]at p;obtain⟨r,N,cc,a,D,rfl,b2,a7,_⟩:=p;by_cases b3:0<cc
       ·obtain⟨rfl,_⟩:=a7 b3;obtain⟨w',f1,t⟩:=wr r N D;exact⟨_,w',ρ,by rw[run _ cc A,f1];rfl,Ext.refl _,t,v _⟩
       ·have C:w_ n len=0:=Nat.le_zero.1 (T_ (Nat.min_le_right n len) O);have E:=zero C;obtain⟨w',f1,t⟩:=wr r N D;rw[E]at f1;have:w'=w:=by simp[storeCells]at f1;exact f1.symm
        subst this;exact⟨_,w',ρ,by rw[run _ cc A,E];simp[storeCells],Ext.refl _,t,v _⟩
      ·rename_i l2 a6 Q;cases W;have p:=s;simp only[VR]at p;rcases p with⟨rfl,rfl⟩|⟨r,N,cc,D,rfl,b2,a7⟩
       ·have C:w_ n 0=0:=Nat.min_zero n;have E:=zero C;cases y:ρ l with
        |none=>exact⟨_,w,ρ,q A A,Ext.refl _,G C y,v _⟩
        |some x=>
         obtain⟨r,N⟩:=x;obtain⟨w',f1,t⟩:=wr r N y;rw[E]at f1;have:w'=w:=by simp[storeCells]at f1;exact f1.symm
         subst this;exact⟨_,w',ρ,q A A,Ext.refl _,t,v _⟩
       ·obtain⟨w',f1,t⟩:=wr r N D;simp only[A_,I_]at f1;exact⟨_,w',ρ,by rw[run _ cc A,f1];rfl,Ext.refl _,t,v _⟩
      ·cases W
     ·exact zR
    ·exact zR
   ·exact zR
  ·exact zR
 ·exact zR
def WL(k:IntKind)(n:Nat)(f:Nat->List AV):Bool:=(l_ n).all λi=>match f i with|[.int a _]=>i_ (a=k)|_=>false
def aa5(a:List AV):Int:=match a with|[.int _ x]=>x|_=>0
def CU(k:IntKind):List AV->Bool
 |[]=>true
 | .int a _::cs=>i_ (a=k)&&CU k cs
 |_=>false
def CV(k:IntKind)(n:Nat)(f:Nat->List AV):Nat->List AV->List AV
 |_,[]=>[]
 |j,.int _ x::cs=> .int k (bif f_ j n then aa5 (f j)else x)::CV k n f (j+1) cs
 |j,c::cs=>c::CV k n f (j+1) cs
theorem Br{k n f}:∀(cs)(j),CU k cs=true->n<=j->CV k n f j cs=cs
 |[],_,_,_=>rfl
 |c::cs,j,h,b=>by
  cases c<;>simp only[CU,ba,bl,lu]at h;obtain⟨rfl,h⟩:=h;have:f_ j n=false:=by rw[n_];intro e;rw[j_]at e;omega
  have a:=Br (n:=n) (f:=f) cs (j+1) h O;simp only[CV,this,cond_false,a]
theorem J5{k n f}(b:WL k n f=true):∀(m)(cs)(j),CU k cs=true->j+m=n->m<=cs.length->CV k n f j cs=rowsOf m (λi=>f (j+i))++cs.drop m
 |0,cs,j,h,d,_=>by rw[Br cs j h O];rfl
 |m+1,[],j,_,_,hm=>absurd hm zA
 |m+1,c::cs,j,h,d,hm=>by
  cases c<;>simp only[CU,ba,bl,lu]at h;obtain⟨rfl,h⟩:=h;have g:f_ j n=true:=by rw[j_];omega
  have a:=List.all_eq_true.1 b j Y;have l:=J5 b m cs (j+1) h O (by simp at hm;omega);simp only[CV,g,cond_true,List.drop_succ_cons];rw[l];have e:rowsOf (m+1) (λi=>f (j+i))=f j++rowsOf m (λi=>f (j+1+i)):=by
   have:=kG 1 m (λi=>f (j+i));rw[Nat.add_comm 1 m]at this;rw[this];have o:rowsOf 1 (λi=>f (j+i))=f j:=by simp[rowsOf]
   have p:(λi=>f (j+(1+i)))=λi=>f (j+1+i):=Y
   rw[o,p]
  rw[e,e_];split at a
  ·rename_i x hx;have:=py a;subst this;rw[hx];rfl
  ·cases a
def Ps(X:RI R)(I:bg)(b:TypeId)(d x:AV)(H:AH)(K:AV->AH->R):R :=
 match I.eI b,CT d,x with
 |some (.slice e),M (l,0,0,len,1),.ae n 1 f=>
  match I.size e,H.get l with
  |some 1,.cells (.int c v::cs) a=>bif g_ len (cs.length+1)&&(CU c cs&&a.w)then X.ag (t_ n len&&WL c n f) (K (.int o_ (n:Nat)) (H.set l (.cells (CV c n f 0 (.int c v::cs)) a)))else ta X I b d x H K
  |_,_=>ta X I b d x H K
 |_,_,_=>ta X I b d x H K
include hX hI in
theorem Pu{o:TypeId}{d x:AV}{H:AH}{K:AV->AH->R}(h:sem (Ps X I o d x H K)):
  ∃a H',sem (K a H')/\∀c ρ w t u (y:Array TypeId) ty,y[0]? =M o->VR ρ d t->VR ρ x u->Rel c ρ H w->∃C w' ρ',(Builtin.copy_ y ty #[t,u]).run P w= .ok C w'/\Ext ρ ρ'/\Rel c ρ' H' w'/\VR ρ' a C:=by
 unfold Ps at h;split at h
 ·rename_i e l len n f p F;split at h
  ·rename_i b v cs a q hl;cases m:g_ len (cs.length+1)&&(CU b cs&&a.w)with
   |false=>rw[m]at h;exact rK hX hI h
   |true=>
    rw[m,cond_true]at h;obtain⟨r,G⟩:=hX.ag _ _ h;simp only[ba]at m r;obtain⟨D,J,L⟩:=m;have D:=dV D;have c1:=fT r.1;have g:w_ n len=n:=k? c1;have j:CU b (.int b v::cs)=true:=by simp only[CU,J,decide_true,Bool.and_self]
    have E:=J5 r.2 n (.int b v::cs) 0 j O zJ;have N:(λi=>f (0+i))=f:=funext λi=>by rw[c_]
    rw[N]at E;have s:ta RI.l3 I o d (.ae n 1 f) H (λa' H'=>a'= .int o_ (n:Nat)/\H'=H.set l (.cells (CV b n f 0 (.int b v::cs)) a)):=by
     unfold ta;have Q:gC H 1 (.ae n 1 f)=M (true,n,f,false):=rfl;have s:(H.get l).Pq 0 0 1 n f=M (i_ (n<=(E_ b v::cs).length),.cells (CV b n f 0 (.int b v::cs)) a):=by rw[hl];show(bif a.w then M (i_ (0+0*1+n*1<=(E_ b v::cs).length),aae.cells ((E_ b v::cs).take (0+0*1)++rowsOf n f++(E_ b v::cs).drop (0+0*1+n*1)) a)else a_)=_;rw[L,cond_true,E];simp
     simp only[p,q,F,Q,s,if_true,g];exact ZF zJ zA
    obtain⟨a',H',⟨rfl,rfl⟩,k⟩:=rK (sem:=id) RI.dX hI s;exact⟨_,_,G,k⟩
  ·exact rK hX hI h
 ·exact rK hX hI h
end
end
section
section
variable {R:Type} {X:RI R} {sem:R->Prop} (hX:X.Ok sem) {I:bg} {P:Program} (hI:I.Ok P)
def Ev(X:RI R)(a:Bool)(eq:AV->AV->Option Bool)(k v:AV)(K:List (AV×AV)->R)(pre:List (AV×AV)):List (AV×AV)->R
 |[]=>K (pre++[(k,v)])
 |(c,d)::es=>match eq k c with
  |some b=>X.cond b (λ_=>match a with|true=>K (pre++(k,v)::es)|false=>X.fail) (λ_=>Ev X a eq k v K (pre++[(c,d)]) es)
  |none=>X.fail
theorem LP(I)(a):sH I a .any=false:=by
 cases a<;>rfl
def J6:TypeDesc->Bool
 | .array _ _=>true
 |_=>false
def mH(X:RI R)(I:bg)(t:TypeId)(m k v:AV)(H:AH)(K:AH->R):R :=
 match I.eI t with
 |some (.map kt _)=>
  match I.eI kt,m with
  |some a,.map (M l)=>
   match H.get l,sH I a k with
   | .map es,true=>match dZ es with|true=>X.fail|false=>Ev X (!J6 a) (J2 I kt a) k v (λb=>K (H.set l (.map b))) [] es
   |_,_=>X.fail
  |_,_=>X.fail
 |_=>X.fail
theorem Bs{a:Bool}{eq:AV->AV->Option Bool}{k v:AV}{K:List (AV×AV)->R}:∀{c pre:List (AV×AV)},sem (Ev X a eq k v K pre c)->X.Ok sem->
  (sem (K (pre++c++[(k,v)]))/\jW eq k c=M a_)∨∃i u,a=true/\i<c.length/\sem (K (pre++c.set i (k,v)))/\jW eq k c=M (M (i,u))
 |[],pre,h,_=> .inl ⟨by simpa [Ev]using h,rfl⟩
 |(l,g)::c,pre,h,hX=>by
  simp only[Ev]at h;split at h
  ·rename_i b e;have d:=hX.cond _ _ _ h;cases b with
   |true=>
    simp only[if_true]at d;cases a with
    |true=>exact .inr ⟨0,g,rfl,zA,by simpa using d,by simp[jW,e]⟩
    |false=>exact absurd d hX.fail
   |false=>
    simp only[lu,if_false]at d;rcases Bs d hX with⟨h1,f⟩|⟨i,u,j,h1,f,h3⟩
    ·exact .inl ⟨by simpa using h1,by simp[jW,e,f]⟩
    ·exact .inr ⟨i+1,u,j,by simpa using h1,by simpa using f,by simp[jW,e,h3]⟩
  ·exact zR
theorem ve{b k ρ c}(d:VR ρ k c):∀{a}{ms:List MapEntry}{i v},jW (oC b) k a=M (M (i,v))->
  aV ρ (a.map (·.1)) (ms.map (·.key))->∃m,ms[i]? =M m/\Instr.sameNow b c m.key=M true
 |[],ms,i,v,h,h1=>by simp[jW]at h
 |(e,f)::a,[],i,v,h,h1=>by simp[aV]at h1
 |(e,f)::a,m::ms,i,v,h,h1=>by
  simp only[d_,aV.aM]at h1;simp only[jW]at h;split at h
  ·rename_i g;cases h;exact⟨m,rfl,xO g d h1.1⟩
  ·split at h
   ·rename_i j l hi;cases h;obtain⟨n,h3,h4⟩:=ve d hi h1.2
    grind
   grind
  ·cases h
theorem qm{d a b}(h:Instr.sameNow d a b=M true)(n):Instr.sameBits n b a=true:=by
 unfold Instr.sameNow at h;split at h
 ·split at h
  ·rename_i k1 x k2 y e;subst e;simp at h;subst h;cases n<;>simp[Instr.sameBits]
  ·cases h
 ·rename_i a b;have c:(a==b)=true:=Option.some.inj h;have:(b==a)=true:=by
   rw[beq_toListBytes]at c⊢;simp only[beq_iff_eq]at c⊢;exact c.symm
  cases n<;>simp only[Instr.sameBits,this]
 ·simp at h;subst h;cases n<;>simp[Instr.sameBits]
 ·cases h
include hX hI in
theorem ob{t:TypeId}{m k v:AV}{H:AH}{K:AH->R}(h:sem (mH X I t m k v H K)):
  ∃H',sem (K H')/\∀c ρ w Q d g,VR ρ m Q->VR ρ k d->VR ρ v g->Rel c ρ H w->∃w',(Instr.mapUpdate t Q d g).run P w= .ok () w'/\Rel c ρ H' w':=by
 unfold mH at h;split at h
 ·rename_i kt et hd;split at h
  ·rename_i kd l S;split at h
   ·rename_i es T f;split at h
    ·exact zR
    rename_i y;have q:k≠ .any:=λe=>by subst e;rw[LP]at f;cases f
    have key:∀r:Option (Nat×AV),jW (J2 I kt kd) k es=M r->(∀p,r=M p->J6 kd=false)->∀c ρ w Q d g,VR ρ (.map (M l)) Q->VR ρ k d->VR ρ v g->Rel c ρ H w->
      ∃w',(Instr.mapUpdate t Q d g).run P w= .ok () w'/\Rel c ρ (H.set l (.map (match r with|none=>es++[(k,v)]|some p=>es.set p.1 (k,v)))) w':=by
     intro r G U c ρ w Q d g hm V hv hr;simp only[VR]at hm;obtain⟨b,N,J,rfl⟩:=hm;have D:=hr.eB l;rw[T,J]at D;obtain⟨b',N',ms,a,e1,e2,Em,W⟩:=D;obtain⟨e3,e4⟩:=Em.plain y;cases e1;have hg:(getObj b).run P w= .ok (.map ms.toArray a) w:=by simp[getObj,Sem.run,e2]
     have Y:=run_checkKey (P:=P) hI S f false 9998 V w;have E:=iF (P:=P) hI S V w G e3 e4;have Z:(H.get l).rw=true:=by rw[T];show(!dZ es)=true;rw[y];rfl
     have a6:b<w.heap.size:=(Array.getElem?_eq_some_iff.1 e2).1;have F:∀o:Obj,(setObj b o).run P w= .ok () {w with heap:=w.heap.setIfInBounds b o}:=λo=>by simp only[setObj,Sem.run,e2]
     have C:∀o:Obj,gu b w {w with heap:=w.heap.setIfInBounds b o}:=λo=>
      ⟨λi hi=>by simp only[z];rw[if_neg (λe=>hi e.symm)],zA,rfl,rfl,rfl⟩
     have aa:∀o:Obj,({w with heap:=w.heap.setIfInBounds b o}:World).heap[b]? =M o:=λo=>by simp only[z,if_true,a6]
     cases r with
     |none=>
      have s:(Instr.mapUpdate t (.map (M b)) d g).run P w= .ok () {w with heap:=w.heap.setIfInBounds b (Obj.map (ms++[({key:=d,val:=g,born:=a}:MapEntry)]).toArray (a+1))}:=by simp only[Instr.mapUpdate,Sem.run_bind,hI.aY w hd,Result.andThen_ok,hg,Y,E,F,G_]
      refine⟨_,s,hr.gX _ Z J (C _).other (C _).size A A A ?_⟩;refine⟨b,N,_,_,rfl,aa _,lx.mk (Ha y q) ?_ ?_,λe=>absurd e zA⟩
      ·simp only[p_,d_,H_];exact e3.append (aV.aM.2 ⟨V,zH⟩)
      ·simp only[p_,d_,H_];exact e4.append (aV.aM.2 ⟨hv,zH⟩)
     |some p=>
      obtain⟨i,pv⟩:=p;obtain⟨m,L,h2,_⟩:=E;have h3:Instr.sameNow kd d m.key=M true:=by have a7:=U _ A;rw[u7 I kt kd (by rintro n e rfl;cases a7)]at G;obtain⟨m',g1,g2⟩:=ve V G e3;rw[L]at g1;cases g1;exact g2
      have s:(Instr.mapUpdate t (.map (M b)) d g).run P w= .ok () {w with heap:=w.heap.setIfInBounds b (Obj.map (ms.set i ({m with key:=d,val:=g}:MapEntry)).toArray a)}:=by
       have ad:((ms.toArray[i]?.map λx=>x.key).getD d)=m.key:=by simp[L]
       have O:(Instr.keyThatStays m.key d).run P w= .ok d w:=by simp[Instr.keyThatStays,qm h3]
       have ap:ms.toArray.modify i (λe=>{e with key:=d,val:=g})=(ms.set i {m with key:=d,val:=g}).toArray:=by
        obtain⟨hi,hm⟩:=List.getElem?_eq_some_iff.1 L;apply k_;simp only[V_];apply b?;intro j;rw[W_,List.getElem?_set];by_cases hj:i=j
        ·subst hj;simp[hi,hm]
        ·simp[hj]
       simp only[Instr.mapUpdate,Sem.run_bind,hI.aY w hd,Result.andThen_ok,hg,Y,h2,ad,O,ap,F]
      refine⟨_,s,hr.gX _ Z J (C _).other (C _).size A A A ?_⟩;refine⟨b,N,_,_,rfl,aa _,lx.mk (Hb y q _) ?_ ?_,λe=>W (by simpa using e)⟩
      ·simp only[p?];exact e3.set i V
      ·simp only[p?];exact e4.set i hv
    rcases Bs h hX with⟨L,h2⟩|⟨i,u,h0,_,L,h2⟩
    ·exact⟨_,L,by have:=key _ h2 (λp e=>zG);simpa using this⟩
    ·exact⟨_,L,by have:=key _ h2 (λp _=>by simpa using h0);simpa using this⟩
   ·exact zR
  ·exact zR
 ·exact zR
def eS(x:Int)(f:Nat->Int)(n:Nat):Bool:=(l_ n).any λi=>x==f i
def dT(n:Nat)(f:Nat->Int)(x:Int)(i:Nat):Int:=bif g_ i n then x else f i
def xq(X:RI R)(I:bg)(t:TypeId)(m k v:AV)(H:AH)(K:AH->R):R :=
 match I.eI t,m,k,v with
 |some (.map kt _),.map (M l),.int o_ x,.bool true=>match I.eI kt,H.get l with
  |some (.int _),.jn n f=>X.cond (eS x f n) (λ_=>K (H.set l (.jn n f))) (λ_=>K (H.set l (.jn (n+1) (dT n f x))))
  |some (.int _),.map []=>K (H.set l (.jn 1 (dT 0 (λ_=>x) x)))
  |_,_=>mH X I t m k v H K
 |_,_,_,_=>mH X I t m k v H K
theorem Bt{kt kk x}{f:Nat->Int}:∀L:List Nat,
  (L.any (λi=>x==f i)=false->jW (J2 I kt (.int kk)) (.int o_ x) (L.map λi=>(E_ o_ (f i),h? true))=M a_)/\
  (L.any (λi=>x==f i)=true->∃j,jW (J2 I kt (.int kk)) (.int o_ x) (L.map λi=>(E_ o_ (f i),h? true))=M (M (j,.bool true)))
 |[]=>⟨λ_=>rfl,λh=>by simp at h⟩
 |i::L=>by
  obtain⟨a,b⟩:=Bt (kt:=kt) (kk:=kk) (x:=x) (f:=f) L;have e:J2 I kt (.int kk) (.int o_ x) (.int o_ (f i))=M (x==f i):=by simp[J2,oC]
  simp only[List.any_cons,d_,jW,e]
  grind
theorem xU{ρ}{α:Type}{g h}(k:∀a,VR ρ (g a) (h a)):∀L:List α,aV ρ (L.map g) (L.map h)
 |[]=>zH
 |a::L=>by simp only[d_];exact aV.aM.2 ⟨k a,xU k L⟩
theorem Ew(n)(f)(x):ec (n+1) (dT n f x)=ec n f++[{key:=.int o_ x,val:=.bool true,born:=n}]:=by
 simp only[ec,i?,p_,d_,H_];congr 1
 ·refine q_ λi hi=>?_
  have:g_ i n=false:=by
   have:=List.mem_range.1 hi;cases a:g_ i n with
   |false=>rfl
   |true=>simp_all
  simp[dT,this]
 ·simp[dT]
include hI in
theorem Ex{t kt L:TypeId}{kk:IntKind}(E:I.eI t=M (.map kt L))(d:I.eI kt=M (.int kk)){b n:Nat}{f:Nat->Int}{x:Int}{w:World}
  (F:w.heap[b]? =M (.map (ec n f).toArray n)):
  (Instr.mapUpdate t (.map (M b)) (.int o_ x) (.bool true)).run P w= .ok () {w with heap:=w.heap.setIfInBounds b (match eS x f n with
   |true=>Obj.map (ec n f).toArray n
   |false=>Obj.map (ec (n+1) (dT n f x)).toArray (n+1))}:=by
 have G:(getObj b).run P w= .ok (.map (ec n f).toArray n) w:=by simp[getObj,Sem.run,F]
 have u:VR (⟨λ_=>a_,λ_=>a_⟩:Env) (.int o_ x) (.int o_ x):=zB;have l:=run_checkKey (P:=P) hI d (k:=.int o_ x) (by simp[sH,oC]) false 9998 u w;have C:aV (⟨λ_=>a_,λ_=>a_⟩:Env) (((l_ n).map λi=>(E_ o_ (f i),h? true)).map (·.1)) ((ec n f).map (·.key)):=by simp only[ec,R_];exact xU (λi=>by simp only[Function.comp,VR]) _
 have H:aV (⟨λ_=>a_,λ_=>a_⟩:Env) (((l_ n).map λi=>(E_ o_ (f i),h? true)).map (·.2)) ((ec n f).map (·.val)):=by simp only[ec,R_];exact xU (λi=>by simp only[Function.comp,VR]) _
 have c:∀o:Obj,(setObj b o).run P w= .ok () {w with heap:=w.heap.setIfInBounds b o}:=λo=>by simp only[setObj,Sem.run,F]
 obtain⟨a1,a2⟩:=Bt (I:=I) (kt:=kt) (kk:=kk) (x:=x) (f:=f) (l_ n);cases p:eS x f n with
 |false=>have a:=iF (P:=P) hI d u w (a1 p) C H;simp only[Instr.mapUpdate,Sem.run_bind,hI.aY w E,Result.andThen_ok,G,l,a,c,G_,Ew]
 |true=>
  obtain⟨j,J⟩:=a2 p;have a:=iF (P:=P) hI d u w J C H;obtain⟨m,v,N,_⟩:=a;have h3:Instr.sameNow (.int kk) (.int o_ x) m.key=M true:=by have q:=J;rw[u7 I kt (.int kk) (by rintro n e h;cases h)]at q;obtain⟨O,g1,g2⟩:=ve u q C;rw[v]at g1;cases g1;exact g2
  have D:m∈ec n f:=List.mem_of_getElem? v;obtain⟨i,_,rfl⟩:=List.mem_map.1 D;have hx:x=f i:=by simp only[Instr.sameNow]at h3;simpa using h3
  subst hx;have r:(((ec n f).toArray[j]?.map λx=>x.key).getD (.int o_ (f i)))= .int o_ (f i):=by simp[v]
  have g:(Instr.keyThatStays (.int o_ (f i)) (.int o_ (f i))).run P w= .ok (.int o_ (f i)) w:=by simp[Instr.keyThatStays,qm h3]
  have s:(ec n f).toArray.modify j (λe=>{e with key:=.int o_ (f i),val:=.bool true})=(ec n f).toArray:=by
   obtain⟨hi,D⟩:=List.getElem?_eq_some_iff.1 v;apply k_;simp only[V_];apply b?;intro y;rw[W_];by_cases K:j=y
   ·subst K;simp[hi,D]
   ·simp[K]
  simp only[Instr.mapUpdate,Sem.run_bind,hI.aY w E,Result.andThen_ok,G,l,N,r,g,s,c]
include hX hI in
theorem xV{t:TypeId}{m k v:AV}{H:AH}{K:AH->R}(h:sem (xq X I t m k v H K)):
  ∃H',sem (K H')/\∀c ρ w j p q,VR ρ m j->VR ρ k p->VR ρ v q->Rel c ρ H w->∃w',(Instr.mapUpdate t j p q).run P w= .ok () w'/\Rel c ρ H' w':=by
 unfold xq at h;split at h
 ·rename_i kt W l x S;have key:∀kk,I.eI kt=M (.int kk)->∀n f,(H.get l).rw=true->(∀ρ w o,bn ρ w o (H.get l)->bn ρ w o (.jn n f))->∀c ρ w j p q,VR ρ (.map (M l)) j->VR ρ (.int o_ x) p->VR ρ (.bool true) q->Rel c ρ H w->
    ∃w',(Instr.mapUpdate t j p q).run P w= .ok () w'/\Rel c ρ (H.set l (match eS x f n with|true=> .jn n f|false=> .jn (n+1) (dT n f x))) w':=by
   intro kk a n f D r c ρ w j p q F G J L;simp only[VR]at F G J;obtain⟨b,N,s,rfl⟩:=F;subst G J;have g:=r _ _ _ (L.eB l);rw[s]at g;obtain⟨Y,Z,T,O⟩:=g;cases T;refine⟨_,Ex hI S a O,?_⟩;have u:b<w.heap.size:=(Array.getElem?_eq_some_iff.1 O).1;refine L.gX _ D s (λi hi=>?_) zA A A A ?_
   ·simp only[z];rw[if_neg (λe=>hi e.symm)]
   ·cases eS x f n with
    |true=>exact⟨b,N,rfl,by simp only[z,if_true,u]⟩
    |false=>exact⟨b,N,rfl,by simp only[z,if_true,u]⟩
  split at h
  ·rename_i kk n f a d;have C:=hX.cond _ _ _ h;have k2:=key kk a n f (by rw[d];rfl) (λρ w o g=>by rw[d]at g;exact g);cases y:eS x f n with
   |true=>rw[y]at C k2;exact⟨_,C,k2⟩
   |false=>rw[y]at C k2;exact⟨_,C,k2⟩
  ·rename_i kk a d;have k2:=key kk a 0 (λ_=>x) (by rw[d];rfl) (λρ w o g=>by
    rw[d]at g;obtain⟨b,N,ms,E,U,Q,h3,h4⟩:=g;obtain⟨V,_⟩:=h3.plain rfl;have e:ms=[]:=by
     cases ms with
     |nil=>rfl
     |cons x xs=>simp[aV]at V
    subst e;rw[h4 A]at Q;exact⟨b,N,U,Q⟩)
   exact⟨_,h,k2⟩
  ·exact ob hX hI h
 ·exact ob hX hI h
def dC(n:Nat)(f:Nat->List Int)(ks:List Int)(i:Nat):List Int:=bif g_ i n then ks else f i
def vf(n:Nat)(Q:Nat->AV)(v:AV)(i:Nat):AV:=bif g_ i n then v else Q i
theorem Ey(n)(f)(ks)(u)(v):jZ (n+1) (dC n f ks) (λi=>bif g_ i n then v else u i)=jZ n f u++[{key:=Ek ks,val:=v,born:=n}]:=by
 simp only[jZ,i?,p_,d_,H_];congr 1
 ·refine q_ λi hi=>?_
  have:g_ i n=false:=by
   have:=List.mem_range.1 hi;cases a:g_ i n with
   |false=>rfl
   |true=>simp_all
  simp[dC,this]
 ·simp[dC]
def Pv(X:RI R)(I:bg)(t:TypeId)(m k v:AV)(H:AH)(K:AH->R):R :=
 match m,k with
 | .map (M l),.agg cs=>match H.get l with
  | .dK n f Q _=>match I.eI t,nM cs with
   |some (.map kt _),M ks=>match I.eI kt with
    |some (.array len a)=>match I.eI a,I.size a with
     |some (.int _),M 1=>X.ag (g_ ks.length len&&gz n f len&&Uc n f ks) (K (H.set l (.dK (n+1) (dC n f ks) (vf n Q v) (M (n,v)))))
     |_,_=>X.fail
    |_=>X.fail
   |_,_=>X.fail
  |_=>xq X I t m k v H K
 |_,_=>xq X I t m k v H K
include hX hI in
theorem Pw{t:TypeId}{m k v:AV}{H:AH}{K:AH->R}(h:sem (Pv X I t m k v H K)):
  ∃H',sem (K H')/\∀c ρ w J G q,VR ρ m J->VR ρ k G->VR ρ v q->Rel c ρ H w->∃w',(Instr.mapUpdate t J G q).run P w= .ok () w'/\Rel c ρ H' w':=by
 unfold Pv at h;split at h
 ·rename_i l cs;split at h
  ·rename_i n f Q a7 hb;split at h
   ·rename_i kt e ks hd L;split at h
    ·rename_i len et r;split at h
     ·rename_i kk s C;have S:=s9 L;subst S;have hc:=hX.ag _ _ h;obtain⟨d,T⟩:=hc;simp only[ba]at d;have hl:ks.length=len:=dV d.1.1;have U:lL n f ks=a_:=by
       have:=d.2;unfold Uc at this;split at this
       ·cases this
       ·assumption
      refine⟨_,T,λc ρ w J G q hm V hv hr=>?_⟩;simp only[VR]at hm;obtain⟨b,N,D,rfl⟩:=hm;have p:=hr.eB l;rw[hb,D]at p;obtain⟨b',N',u,e1,W,e3,e4⟩:=p;cases e1;have Y:G=Ek ks:=by
       have hh:=V;simp only[VR]at hh;obtain⟨vs,rfl,Z⟩:=hh;have:∀(ks:List Int)(vs:List Value),aV ρ (gh ks) vs->vs=ks.map λx=>Y_ o_ x:=by
        intro ks
        induction ks with
        |nil=>intro vs h;simpa [gh,aV]using h
        |cons x ks ih=>intro vs h;simp only[gh,d_,aV]at h;obtain⟨u,us,rfl,h1,h2⟩:=h;simp only[VR]at h1;rw[d_,<-ih us h2,h1]
       rw[this ks vs Z];rfl
      subst Y;have aa:(getObj b).run P w= .ok (.map (jZ n f u).toArray n) w:=by simp[getObj,Sem.run,W]
      have y:sH I (.array len et) (.agg (gh ks))=true:=by simp only[sH,s,C,List.all_eq_true,List.mem_range];intro i hi;simp[apart,s,TypeDesc.agg,gh,oa (O:i<ks.length)]
      have ad:=run_checkKey (P:=P) hI r y false 9998 V w;obtain⟨v1,v2⟩:=Ep (f:=f) e3;obtain⟨_,a2⟩:=vb (kk:=kk) r s C hl (f:=f) (Q:=λi=>Q i) (l_ n) (Eo d.1.2);have ap:=iF (P:=P) hI r V w (a2 U) v1 v2;have E:∀o:Obj,(setObj b o).run P w= .ok () {w with heap:=w.heap.setIfInBounds b o}:=λo=>by simp only[setObj,Sem.run,W]
      have a6:b<w.heap.size:=(Array.getElem?_eq_some_iff.1 W).1;have F:(Instr.mapUpdate t (.map (M b)) (Ek ks) q).run P w= .ok () {w with heap:=w.heap.setIfInBounds b (Obj.map (jZ (n+1) (dC n f ks) (λi=>bif g_ i n then q else u i)).toArray (n+1))}:=by simp only[Instr.mapUpdate,Sem.run_bind,hI.aY w hd,Result.andThen_ok,aa,ad,ap,E,G_,Ey]
      refine⟨_,F,hr.gX _ (by rw[hb];rfl) D (λi hi=>?_) zA A A A ?_⟩
      ·simp only[z];rw[if_neg (λe=>hi e.symm)]
      ·refine⟨b,N,λi=>bif g_ i n then q else u i,rfl,by simp only[z,if_true,a6],λi hi=>?_,λj a e=>?_⟩
       ·cases g:g_ i n with
        |true=>simp only[vf,g,cond_true];exact hv
        |false=>simp only[vf,g,cond_false];exact e3 i (by have:i≠n:=(λe=>by rw[e,qy]at g;cases g);omega)
       ·cases e;exact⟨O,by show VR ρ v (bif g_ n n then q else u n);rw[qy];exact hv⟩
     ·exact zR
    ·exact zR
   ·exact zR
  ·exact xV hX hI h
 ·exact xV hX hI h
end
def fE.A2(c:fE)(ρ:Env)(H:AH)(w:World)(L:Nat->Prop):fE :=
 {w0:=w
  Z:=λk=>c.Z k∨∃l N,L l/\H.get l≠ .dead/\(H.get l).rw=false/\ρ l=M (k,N)
  G:=c.G
  X:=λk=>c.X k∨∃l N,L l/\(H.get l).rw=true/\ρ l=M (k,N)
  E:=λl=>l<H.n
  Hc:=ρ}
theorem Rel.A2{c:fE}{ρ:Env}{H:AH}{w:World}(h:Rel c ρ H w){L:Nat->Prop}{HM:AH}(y:HM.n=H.n)(v:∀l,(L l/\HM.get l= .dead)∨(¬ L l/\HM.get l=H.get l)):
  Rel (c.A2 ρ H w L) ρ HM w:=by
 have dB:∀{b:aae},b.rw=true->b≠ .dead:=λh e=>by rw[e]at h;cases h
 have s:∀l,HM.get l≠ .dead->¬ L l/\HM.get l=H.get l:=Y;refine⟨λl=>?_,λl i r N j t a m d=>?_,λl r N a m u=>?_,λk f=>?_,dP _,rfl,rfl,rfl,λl hl=>h.top l O,h.eZ,λl r N o m hx=>?_,λl hl=>⟨by rw[y];exact hl,rfl⟩,λl hl=>(v l).elim (λe=>e.2) (λe=>e.2.trans (h.low l O)),h.sY,λl r N a m=>?_,λk f=>?_,λ_ _ e=>e⟩
 ·rcases v l with⟨_,e⟩|⟨_,e⟩
  ·rw[e];trivial
  ·rw[e];exact h.eB l
 ·obtain⟨_,e⟩:=s l (dB a);rw[e]at a;have:=h.sep l i r N j t a m d
  grind
 ·obtain⟨hl,e⟩:=s l (dB a);rw[e]at a;rcases u with u|⟨i,j,q,o,C,d⟩
  ·exact h.iB l r N a m u
  ·exact o (h.sep l i r N j (λe=>hl (e▸q)) a m d)
 ·refine⟨?_,rfl⟩;have old:∀k,c.Z k∨c.X k->k<w.heap.size:=λk f=>a? (h.gY k f).1 h.size
  rcases f with(f|⟨i,j,q,o,_,d⟩)|(f|⟨i,j,q,a,d⟩)
  ·exact old k (.inl f)
  ·exact h.lt o d
  ·exact old k (.inr f)
  ·exact h.lt (dB a) d
 ·obtain⟨hl,e⟩:=s l o;rw[e]at o;rcases hx with hx|⟨i,j,q,a,d⟩
  ·exact h.hid l r N o m hx
  ·exact o (h.sep i l r j N (λe=>hl (e▸q)) a d m)
 ·obtain⟨_,e⟩:=s l (dB a);rw[e]at a;exact h.sy l r N a m
 ·rcases f with f|⟨i,j,q,a,d⟩
  ·exact h.tJ k f
  ·exact h.sy i k j a d
theorem Rel.Px{c:fE}{ρ ρ':Env}{H H' H2:AH}{w w':World}(h:Rel c ρ H w){L:Nat->Prop}(f:Rel (c.A2 ρ H w L) ρ' H' w')
  (G:H2.n=H'.n) (u:∀l,(L l/\H2.get l=H.get l)∨(¬ L l/\H2.get l=H'.get l)):Ext ρ ρ'/\Rel c ρ' H2 w':=by
 have dB:∀{b:aae},b.rw=true->b≠ .dead:=λh e=>by rw[e]at h;cases h
 have env:∀l,l<H.n->l<H'.n/\ρ' l=ρ l:=λl hl=>f.env l hl
 have hx:Ext ρ ρ':=by
  refine⟨λl x e=>?_,f.sZ⟩;have:l<H.n:=Nat.lt_of_not_le λF=>by rw[h.top l F]at e;cases e
  rw[(env l this).2];exact e
 have low:∀l,H.get l≠ .dead->l<H.n:=λl i=>h.below i
 have v:∀l r N,L l->H.get l≠ .dead->ρ l=M (r,N)->(c.A2 ρ H w L).Z r∨(c.A2 ρ H w L).X r:=λl r N m i d=>by
  cases a:(H.get l).rw with
  |true=>exact .inr (.inr ⟨l,N,m,a,d⟩)
  |false=>exact .inl (.inr ⟨l,N,m,i,a,d⟩)
 refine⟨hx,λl=>?_,λl o r N D C a d q=>?_,λl r N a d s=>?_,λk E=>?_,T_ h.size f.size,f.os.trans h.os,f.output.trans h.output,f.tape.trans h.tape,λl hl=>f.top l O,f.eZ,λl r N i d s=>?_,λl hl=>?_,λl hl=>?_,f.sY,λl r N a d=>?_,λk E=>f.tJ k (.inl E),λk vs e=>f.sZ k vs (h.sZ k vs e)⟩
 ·rcases u l with⟨m,e⟩|⟨_,e⟩
  ·rw[e];by_cases i:H.get l= .dead
   ·rw[i];trivial
   ·rw[(env l (low l i)).2];exact bn.world (λr N e=>(f.gY r (v l r N m i e)).2) ((h.eB l).ext hx)
  ·rw[e];exact f.eB l
 ·rcases u l with⟨m,e⟩|⟨m,e⟩
  ·rw[e]at a;have i:=dB a;rw[(env l (low l i)).2]at d;rcases u o with⟨t,y⟩|⟨t,y⟩
   ·rw[y];apply r_;intro j;rw[(env o (low o j)).2]at q;exact j (h.sep l o r N D C a d q)
   ·rw[y];apply r_;intro j;exact f.hid o r D j q (.inr ⟨l,N,m,a,d⟩)
  ·rw[e]at a;rcases u o with⟨t,y⟩|⟨t,y⟩
   ·rw[y];apply r_;intro j;rw[(env o (low o j)).2]at q;rcases v o r D t j q with s|s
    ·exact f.iB l r N a d s
    ·exact f.hid l r N (dB a) d s
   ·rw[y];exact f.sep l o r N D C a d q
 ·rcases u l with⟨m,e⟩|⟨m,e⟩
  ·rw[e]at a;rw[(env l (low l (dB a))).2]at d;exact h.iB l r N a d s
  ·rw[e]at a;exact f.iB l r N a d (.inl s)
 ·obtain⟨d,q⟩:=h.gY k E;exact⟨d,((f.gY k (E.imp .inl .inl)).2).trans q⟩
 ·rcases u l with⟨m,e⟩|⟨m,e⟩
  ·rw[e]at i;rw[(env l (low l i)).2]at d;exact h.hid l r N i d s
  ·rw[e]at i;exact f.hid l r N i d (.inl s)
 ·obtain⟨d,q⟩:=h.env l hl
  grind
 ·rcases u l with⟨_,e⟩|⟨_,e⟩
  grind
  ·rw[e];exact f.low l O
 ·rcases u l with⟨m,e⟩|⟨m,e⟩
  ·rw[e]at a;rw[(env l (low l (dB a))).2]at d;exact f.tJ r (.inr ⟨l,N,m,a,d⟩)
  ·rw[e]at a;exact f.sy l r N a d
end
end
end Go.Sx
