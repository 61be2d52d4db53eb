/- The proof of a statement of the seat, part 5. -/
import Derived.Test.YtoijalagmmgkbaaGreatDoorX04
import Derived.RangeFuncRecord
import Derived.ScopeJumps
import Derived.Lib.UnsafeStr
import Derived.Maps.RangeRun
set_option linter.all false
set_option linter.defProp false
set_option maxRecDepth 1000000
namespace Go.Sx
open Go
open _root_.Array renaming getElem?_setIfInBounds->M,ext'->c_,getD_eq_getD_getElem?->e_,toList_modify->m_,toList_setIfInBounds->x_,toList_filter->B_,length_toList->C_,replicate->K_
open Option renaming some->z,none->d_,bind_some->F_,map_some->J_
open Nat renaming beq->a_,blt->k_,blt_eq->t_,zero_add->w_,zero_mul->A_,succ_le_iff->Q_
open List renaming map_cons->b_,range->f_,map_nil->h_,ext_getElem?->i_,getElem?_modify->j_,eq_nil_of_length_eq_zero->l_,length_nil->n_,push_toArray->p_,getElem?_set->q_,map_append->r_,length_map->s_,range'->u_,getElem?_range->v_,set_eq_of_length_le->y_,map_congr_left->D_,getElem?_map->I_,map_fst_zip->L_,map_snd_zip->M_,range_succ->O_,mem_filter->P_,map_set->S_,map_map->U_,mapM->V_
open Go.IntKind renaming i64->g_
open Classical renaming byContradiction->o_
open Function renaming comp_def->z_,comp->G_
open Go.Value renaming func->E_,int->H_
open AV renaming bool->N_,int->T_
noncomputable section
section
section
variable {R:Type} {X:RI R} {sem:R->Prop} (hX:X.Ok sem) {I:ba} {P:Program} (hI:I.Ok P)
def By(X:RI R)(a:Bool)(eq:AV->AV->Option Bool)(k v:AV)(K:List (AV×AV)->R)(pre:List (AV×AV)):List (AV×AV)->R
 |[]=>K (pre++[(k,v)])
 |(c,d)::es=>match eq k c with
  |some b=>X.cond b (λ_=>match a with|true=>K (pre++(k,v)::es)|false=>X.fail) (λ_=>By X a eq k v K (pre++[(c,d)]) es)
  |none=>X.fail
theorem HV(I)(a):pX I a .any=false:=by
 cases a<;>rfl
def Sf:TypeDesc->Bool
 | .array _ _=>true
 |_=>false
def lj(X:RI R)(I:ba)(t:TypeId)(m k v:AV)(H:AH)(K:AH->R):R :=
 match I.dI t with
 |some (.map kt _)=>
  match I.dI kt,m with
  |some a,.map (z l)=>
   match H.get l,pX I a k with
   | .map es,true=>match dL es with|true=>X.fail|false=>By X (!Sf a) (DR I kt a) k v (λb=>K (H.set l (.map b))) [] es
   |_,_=>X.fail
  |_,_=>X.fail
 |_=>X.fail
theorem yq{a:Bool}{eq:AV->AV->Option Bool}{k v:AV}{K:List (AV×AV)->R}:∀{c pre:List (AV×AV)},sem (By X a eq k v K pre c)->X.Ok sem->
  (sem (K (pre++c++[(k,v)]))/\iM eq k c=z d_)∨∃i u,a=true/\i<c.length/\sem (K (pre++c.set i (k,v)))/\iM eq k c=z (z (i,u))
 |[],pre,h,_=> .inl ⟨by simpa [By]using h,rfl⟩
 |(m,g)::c,pre,h,hX=>by
  simp only[By]at h
  split at h
  ·rename_i b e
   have d:=hX.cond _ _ _ h
   cases b with
   |true=>
    simp only[if_true]at d
    cases a with
    |true=>exact .inr ⟨0,g,rfl,zA,by simpa using d,by simp[iM,e]⟩
    |false=>exact absurd d hX.fail
   |false=>
    simp only[kH,if_false]at d
    rcases yq d hX with⟨h1,f⟩|⟨i,u,j,h1,f,l⟩
    ·exact .inl ⟨by simpa using h1,by simp[iM,e,f]⟩
    ·exact .inr ⟨i+1,u,j,by simpa using h1,by simpa using f,by simp[iM,e,l]⟩
  ·exact zR
theorem xz{b k ρ c}(d:VR ρ k c):∀{a}{ms:List MapEntry}{i v},iM (my b) k a=z (z (i,v))->
  aU ρ (a.map (·.1)) (ms.map (·.key))->∃m,ms[i]? =z m/\Instr.sameNow b c m.key=z true
 |[],ms,i,v,h,h1=>by simp[iM]at h
 |(e,f)::a,[],i,v,h,h1=>by simp[aU]at h1
 |(e,f)::a,m::ms,i,v,h,h1=>by
  simp only[b_,aU.aL]at h1
  simp only[iM]at h
  split at h
  ·rename_i g
   cases h
   exact⟨m,rfl,vn g d h1.1⟩
  ·split at h
   ·rename_i j l hi
    cases h
    obtain⟨n,o,p⟩:=xz d hi h1.2
    grind
   grind
  ·cases h
theorem n9{d a b}(h:Instr.sameNow d a b=z true)(n):Instr.sameBits n b a=true:=by
 unfold Instr.sameNow at h
 split at h
 ·split at h
  ·rename_i k1 x k2 y e
   subst e
   simp at h
   subst h
   cases n<;>simp[Instr.sameBits]
  ·cases h
 ·rename_i a b
  have c:(a==b)=true:=Option.some.inj h
  have:(b==a)=true:=by
   rw[beq_toListBytes]at c⊢
   simp only[beq_iff_eq]at c⊢
   exact c.symm
  cases n<;>simp only[Instr.sameBits,this]
 ·simp at h;subst h;cases n<;>simp[Instr.sameBits]
 ·cases h
include hX hI in
theorem l3{t:TypeId}{m k v:AV}{H:AH}{K:AH->R}(h:sem (lj X I t m k v H K)):
  ∃H',sem (K H')/\∀c ρ w Q d g,VR ρ m Q->VR ρ k d->VR ρ v g->Rel c ρ H w->∃w',(Instr.mapUpdate t Q d g).run P w= .ok () w'/\Rel c ρ H' w':=by
 unfold lj at h
 split at h
 ·rename_i kt et hd
  split at h
  ·rename_i kd l S
   split at h
   ·rename_i es T f
    split at h
    ·exact zR
    rename_i y
    have q:k≠ .any:=λe=>by subst e;rw[HV]at f;cases f
    have key:∀r:Option (Nat×AV),iM (DR I kt kd) k es=z r->(∀p,r=z p->Sf kd=false)->∀c ρ w Q d g,VR ρ (.map (z l)) Q->VR ρ k d->VR ρ v g->Rel c ρ H w->
      ∃w',(Instr.mapUpdate t Q d g).run P w= .ok () w'/\Rel c ρ (H.set l (.map (match r with|none=>es++[(k,v)]|some p=>es.set p.1 (k,v)))) w':=by
     intro r G U c ρ w Q d g hm V hv hr
     simp only[VR]at hm
     obtain⟨b,N,J,rfl⟩:=hm
     have D:=hr.dF l
     rw[T,J]at D
     obtain⟨b',N',ms,a,e1,e2,Kf,W⟩:=D
     obtain⟨e3,e4⟩:=Kf.plain y
     cases e1
     have hg:(getObj b).run P w= .ok (.map ms.toArray a) w:=by simp[getObj,Sem.run,e2]
     have Y:=run_checkKey (P:=P) hI S f false 9998 V w
     have E:=gM (P:=P) hI S V w G e3 e4
     have Z:(H.get l).rw=true:=by rw[T];show(!dL es)=true;rw[y];rfl
     have a6:b<w.heap.size:=(Array.getElem?_eq_some_iff.1 e2).1
     have F:∀o:Obj,(setObj b o).run P w= .ok () {w with heap:=w.heap.setIfInBounds b o}:=λo=>by simp only[setObj,Sem.run,e2]
     have C:∀o:Obj,fD b w {w with heap:=w.heap.setIfInBounds b o}:=λo=>
      ⟨λi hi=>by simp only[M];rw[if_neg (λe=>hi e.symm)],zA,rfl,rfl,rfl⟩
     have ad:∀o:Obj,({w with heap:=w.heap.setIfInBounds b o}:World).heap[b]? =z o:=λo=>by
      simp only[M,if_true,a6]
     cases r with
     |none=>
      have s:(Instr.mapUpdate t (.map (z b)) d g).run P w= .ok () {w with heap:=w.heap.setIfInBounds b (Obj.map (ms++[({key:=d,val:=g,born:=a}:MapEntry)]).toArray (a+1))}:=by
       simp only[Instr.mapUpdate,Sem.run_bind,hI.aW w hd,Result.andThen_ok,hg,Y,E,F,p_]
      refine⟨_,s,hr.fC _ Z J (C _).other (C _).size A A A ?_⟩
      refine⟨b,N,_,_,rfl,ad _,r9.mk (DG y q) ?_ ?_,λe=>absurd e zA⟩
      ·simp only[r_,b_,h_]
       exact e3.append (aU.aL.2 ⟨V,zH⟩)
      ·simp only[r_,b_,h_]
       exact e4.append (aU.aL.2 ⟨hv,zH⟩)
     |some p=>
      obtain⟨i,pv⟩:=p
      obtain⟨m,L,h2,_⟩:=E
      have h3:Instr.sameNow kd d m.key=z true:=by
       have a7:=U _ A
       rw[sw I kt kd (by rintro n e rfl;cases a7)]at G
       obtain⟨m',g1,g2⟩:=xz V G e3
       rw[L]at g1;cases g1
       exact g2
      have s:(Instr.mapUpdate t (.map (z b)) d g).run P w= .ok () {w with heap:=w.heap.setIfInBounds b (Obj.map (ms.set i ({m with key:=d,val:=g}:MapEntry)).toArray a)}:=by
       have ag:((ms.toArray[i]?.map λx=>x.key).getD d)=m.key:=by simp[L]
       have O:(Instr.keyThatStays m.key d).run P w= .ok d w:=by
        simp[Instr.keyThatStays,n9 h3]
       have ap:ms.toArray.modify i (λe=>{e with key:=d,val:=g})=(ms.set i {m with key:=d,val:=g}).toArray:=by
        obtain⟨hi,hm⟩:=List.getElem?_eq_some_iff.1 L
        apply c_
        simp only[m_]
        apply i_
        intro j
        rw[j_,q_]
        by_cases hj:i=j
        ·subst hj;simp[hi,hm]
        ·simp[hj]
       simp only[Instr.mapUpdate,Sem.run_bind,hI.aW w hd,Result.andThen_ok,hg,Y,h2,ag,O,ap,F]
      refine⟨_,s,hr.fC _ Z J (C _).other (C _).size A A A ?_⟩
      refine⟨b,N,_,_,rfl,ad _,r9.mk (DH y q _) ?_ ?_,λe=>W (by simpa using e)⟩
      ·simp only[S_]
       exact e3.set i V
      ·simp only[S_]
       exact e4.set i hv
    rcases yq h hX with⟨L,h2⟩|⟨i,u,h0,_,L,h2⟩
    ·exact⟨_,L,by have:=key _ h2 (λp e=>zG);simpa using this⟩
    ·exact⟨_,L,by have:=key _ h2 (λp _=>by simpa using h0);simpa using this⟩
   ·exact zR
  ·exact zR
 ·exact zR
def gv(x:Int)(f:Nat->Int)(n:Nat):Bool:=(f_ n).any λi=>x==f i
def dY(n:Nat)(f:Nat->Int)(x:Int)(i:Nat):Int:=bif a_ i n then x else f i
def vF(X:RI R)(I:ba)(t:TypeId)(m k v:AV)(H:AH)(K:AH->R):R :=
 match I.dI t,m,k,v with
 |some (.map kt _),.map (z l),.int g_ x,.bool true=>match I.dI kt,H.get l with
  |some (.int _),.iy n f=>X.cond (gv x f n) (λ_=>K (H.set l (.iy n f))) (λ_=>K (H.set l (.iy (n+1) (dY n f x))))
  |some (.int _),.map []=>K (H.set l (.iy 1 (dY 0 (λ_=>x) x)))
  |_,_=>lj X I t m k v H K
 |_,_,_,_=>lj X I t m k v H K
theorem yr{kt kk x}{f:Nat->Int}:∀L:List Nat,
  (L.any (λi=>x==f i)=false->iM (DR I kt (.int kk)) (.int g_ x) (L.map λi=>(T_ g_ (f i),N_ true))=z d_)/\
  (L.any (λi=>x==f i)=true->∃j,iM (DR I kt (.int kk)) (.int g_ x) (L.map λi=>(T_ g_ (f i),N_ true))=z (z (j,.bool true)))
 |[]=>⟨λ_=>rfl,λh=>by simp at h⟩
 |i::L=>by
  obtain⟨a,b⟩:=yr (kt:=kt) (kk:=kk) (x:=x) (f:=f) L
  have e:DR I kt (.int kk) (.int g_ x) (.int g_ (f i))=z (x==f i):=by simp[DR,my]
  simp only[List.any_cons,b_,iM,e]
  grind
theorem vy{ρ}{α:Type}{g h}(k:∀a,VR ρ (g a) (h a)):∀L:List α,aU ρ (L.map g) (L.map h)
 |[]=>zH
 |a::L=>by simp only[b_];exact aU.aL.2 ⟨k a,vy k L⟩
theorem Bz(n)(f)(x):dM (n+1) (dY n f x)=dM n f++[{key:=.int g_ x,val:=.bool true,born:=n}]:=by
 simp only[dM,O_,r_,b_,h_]
 congr 1
 ·refine D_ λi hi=>?_
  have:a_ i n=false:=by
   have:=List.mem_range.1 hi
   cases a:a_ i n with
   |false=>rfl
   |true=>simp_all
  simp[dY,this]
 ·simp[dY]
include hI in
theorem BA{t kt N:TypeId}{kk:IntKind}(F:I.dI t=z (.map kt N))(d:I.dI kt=z (.int kk)){b n:Nat}{f:Nat->Int}{x:Int}{w:World}
  (G:w.heap[b]? =z (.map (dM n f).toArray n)):
  (Instr.mapUpdate t (.map (z b)) (.int g_ x) (.bool true)).run P w= .ok () {w with heap:=w.heap.setIfInBounds b (match gv x f n with
   |true=>Obj.map (dM n f).toArray n
   |false=>Obj.map (dM (n+1) (dY n f x)).toArray (n+1))}:=by
 have H:(getObj b).run P w= .ok (.map (dM n f).toArray n) w:=by simp[getObj,Sem.run,G]
 have u:VR (⟨λ_=>d_,λ_=>d_⟩:Env) (.int g_ x) (.int g_ x):=zB
 have l:=run_checkKey (P:=P) hI d (k:=.int g_ x) (by simp[pX,my]) false 9998 u w
 have C:aU (⟨λ_=>d_,λ_=>d_⟩:Env) (((f_ n).map λi=>(T_ g_ (f i),N_ true)).map (·.1)) ((dM n f).map (·.key)):=by
  simp only[dM,U_]
  exact vy (λi=>by simp only[G_,VR]) _
 have J:aU (⟨λ_=>d_,λ_=>d_⟩:Env) (((f_ n).map λi=>(T_ g_ (f i),N_ true)).map (·.2)) ((dM n f).map (·.val)):=by
  simp only[dM,U_]
  exact vy (λi=>by simp only[G_,VR]) _
 have c:∀o:Obj,(setObj b o).run P w= .ok () {w with heap:=w.heap.setIfInBounds b o}:=λo=>by simp only[setObj,Sem.run,G]
 obtain⟨a1,a2⟩:=yr (I:=I) (kt:=kt) (kk:=kk) (x:=x) (f:=f) (f_ n)
 cases p:gv x f n with
 |false=>
  have a:=gM (P:=P) hI d u w (a1 p) C J
  simp only[Instr.mapUpdate,Sem.run_bind,hI.aW w F,Result.andThen_ok,H,l,a,c,p_,Bz]
 |true=>
  obtain⟨j,K⟩:=a2 p
  have a:=gM (P:=P) hI d u w K C J
  obtain⟨m,v,O,_⟩:=a
  have D:Instr.sameNow (.int kk) (.int g_ x) m.key=z true:=by
   have q:=K
   rw[sw I kt (.int kk) (by rintro n e h;cases h)]at q
   obtain⟨Q,g1,g2⟩:=xz u q C
   rw[v]at g1;cases g1
   exact g2
  have E:m∈dM n f:=List.mem_of_getElem? v
  obtain⟨i,_,rfl⟩:=List.mem_map.1 E
  have hx:x=f i:=by
   simp only[Instr.sameNow]at D
   simpa using D
  subst hx
  have r:(((dM n f).toArray[j]?.map λx=>x.key).getD (.int g_ (f i)))= .int g_ (f i):=by simp[v]
  have g:(Instr.keyThatStays (.int g_ (f i)) (.int g_ (f i))).run P w= .ok (.int g_ (f i)) w:=by
   simp[Instr.keyThatStays,n9 D]
  have s:(dM n f).toArray.modify j (λe=>{e with key:=.int g_ (f i),val:=.bool true})=(dM n f).toArray:=by
   obtain⟨hi,E⟩:=List.getElem?_eq_some_iff.1 v
   apply c_
   simp only[m_]
   apply i_
   intro y
   rw[j_]
   by_cases L:j=y
   ·subst L;simp[hi,E]
   ·simp[L]
  simp only[Instr.mapUpdate,Sem.run_bind,hI.aW w F,Result.andThen_ok,H,l,O,r,g,s,c]
include hX hI in
theorem qq{t:TypeId}{m k v:AV}{H:AH}{K:AH->R}(h:sem (vF X I t m k v H K)):
  ∃H',sem (K H')/\∀c ρ w j p q,VR ρ m j->VR ρ k p->VR ρ v q->Rel c ρ H w->∃w',(Instr.mapUpdate t j p q).run P w= .ok () w'/\Rel c ρ H' w':=by
 unfold vF at h
 split at h
 ·rename_i kt Z l x S
  have key:∀kk,I.dI kt=z (.int kk)->∀n f,(H.get l).rw=true->(∀ρ w o,bp ρ w o (H.get l)->bp ρ w o (.iy n f))->∀c ρ w j p q,VR ρ (.map (z l)) j->VR ρ (.int g_ x) p->VR ρ (.bool true) q->Rel c ρ H w->
    ∃w',(Instr.mapUpdate t j p q).run P w= .ok () w'/\Rel c ρ (H.set l (match gv x f n with|true=> .iy n f|false=> .iy (n+1) (dY n f x))) w':=by
   intro kk a n f D r c ρ w j p q F G J L
   simp only[VR]at F G J
   obtain⟨b,N,s,rfl⟩:=F
   subst G J
   have g:=r _ _ _ (L.dF l)
   rw[s]at g
   obtain⟨b',N',T,O⟩:=g
   cases T
   refine⟨_,BA hI S a O,?_⟩
   have u:b<w.heap.size:=(Array.getElem?_eq_some_iff.1 O).1
   refine L.fC _ D s (λi hi=>?_) zA A A A ?_
   ·simp only[M];rw[if_neg (λe=>hi e.symm)]
   ·cases gv x f n with
    |true=>exact⟨b,N,rfl,by simp only[M,if_true,u]⟩
    |false=>exact⟨b,N,rfl,by simp only[M,if_true,u]⟩
  split at h
  ·rename_i kk n f a d
   have C:=hX.cond _ _ _ h
   have k2:=key kk a n f (by rw[d];rfl) (λρ w o g=>by rw[d]at g;exact g)
   cases y:gv x f n with
   |true=>rw[y]at C k2;exact⟨_,C,k2⟩
   |false=>rw[y]at C k2;exact⟨_,C,k2⟩
  ·rename_i kk a d
   have k2:=key kk a 0 (λ_=>x) (by rw[d];rfl) (λρ w o g=>by
    rw[d]at g
    obtain⟨b,N,ms,E,U,Q,V,W⟩:=g
    obtain⟨Y,_⟩:=V.plain rfl
    have e:ms=[]:=by
     cases ms with
     |nil=>rfl
     |cons x xs=>simp[aU]at Y
    subst e
    rw[W A]at Q
    exact⟨b,N,U,Q⟩)
   exact⟨_,h,k2⟩
  ·exact l3 hX hI h
 ·exact l3 hX hI h
def cZ(n:Nat)(f:Nat->List Int)(ks:List Int)(i:Nat):List Int:=bif a_ i n then ks else f i
def nz(n:Nat)(Q:Nat->AV)(v:AV)(i:Nat):AV:=bif a_ i n then v else Q i
theorem tJ(n)(f)(ks)(u)(v):bT (n+1) (cZ n f ks) (λi=>bif a_ i n then v else u i)=bT n f u++[{key:=iL ks,val:=v,born:=n}]:=by
 simp only[bT,O_,r_,b_,h_]
 congr 1
 ·refine D_ λi hi=>?_
  have:a_ i n=false:=by
   have:=List.mem_range.1 hi
   cases a:a_ i n with
   |false=>rfl
   |true=>simp_all
  simp[cZ,this]
 ·simp[cZ]
def Vu(foc:Option (Nat×AV))(n:Nat)(f:Nat->List Int)(ks:List Int):Option Nat:=match foc with
 |some (j,_)=>match uI n f ks j with
  |true=>z j
  |false=>d_
 |none=>d_
def yu(j:Nat)(Q:Nat->AV)(v:AV)(i:Nat):AV:=bif a_ i j then v else Q i
def Pp(X:RI R)(I:ba)(t:TypeId)(n:Nat)(f:Nat->List Int)(Q:Nat->AV)(foc:Option (Nat×AV))(ks:List Int)(v:AV)(K:ai->R):R :=
 match I.dI t with
 |some (.map kt _)=>match I.dI kt with
  |some (.array len a)=>match I.dI a,I.size a with
   |some (.int _),z 1=>match Vu foc n f ks with
    |none=>X.ak (a_ ks.length len&&ln n f len&&Kv n f ks) (K (.cT (n+1) (cZ n f ks) (nz n Q v) (z (n,v))))
    |some j=>X.ak (a_ ks.length len&&ln n f len) (K (.cT n f (yu j Q v) (z (j,v))))
   |_,_=>X.fail
  |_=>X.fail
 |_=>X.fail
def RZ(I:ba)(t:TypeId):Bool:=match I.dI t with
 |some (.map kt _)=>match I.dI kt with
  |some k=>Sf k
  |_=>false
 |_=>false
def KF(X:RI R)(I:ba)(t:TypeId)(m k v:AV)(H:AH)(K:AH->R):R :=
 match m,k with
 | .map (z l),.agg cs=>match H.get l,kK cs with
  | .cT n f Q foc,z ks=>Pp X I t n f Q foc ks v λb=>K (H.set l b)
  | .map [],z ks=>bif RZ I t then Pp X I t 0 (λ_=>[]) (λ_=> .any) d_ ks v λb=>K (H.set l b)else vF X I t m k v H K
  |_,_=>vF X I t m k v H K
 |_,_=>vF X I t m k v H K
theorem xM:∀ks:List Int,Instr.sameBits 10000 (iL ks) (iL ks)=true:=λks=>by
 have h:∀ks:List Int,((ks.map λx=>H_ g_ x).zip (ks.map λx=>H_ g_ x)).all (λ(x,y)=>Instr.sameBits 9999 x y)=true:=λks=>by
  induction ks with
  |nil=>rfl
  |cons x ks a=>
   simp only[b_,List.zip_cons_cons,List.all_cons,a,Bool.and_true]
   simp[Instr.sameBits]
 show Instr.sameBits (9999+1) (.agg _) (.agg _)=true
 simp only[Instr.sameBits,BEq.rfl,Bool.true_and]
 exact h ks
theorem vz{n j:Nat}(a:j<n)(f:Nat->List Int)(u:Nat->Value)(v:Value):(bT n f u).set j {key:=iL (f j),val:=v,born:=j}=bT n f (λi=>bif a_ i j then v else u i):=by
 apply i_
 intro i
 rw[q_]
 simp only[bT,s_,List.length_range,I_]
 by_cases hi:i<n
 ·rw[v_ hi]
  by_cases e:j=i
  ·subst e;simp[a]
  ·simp only[if_neg e,J_]
   have:a_ i j=false:=by
    cases b:a_ i j with
    |false=>rfl
    |true=>exact absurd (dE b).symm e
   rw[this];rfl
 ·rw[List.getElem?_eq_none (by simpa using hi)]
  split<;>simp
  omega
include hI in
theorem R0{n:Nat}{f:Nat -> List Int}{Q:Nat -> AV}{foc:Option (Nat × AV)}{ks:List Int}{H:AH}{l:Nat}{kt e:TypeId}{len:Nat}{kk:IntKind}(g:I.dI kt = z (.array len e))(j:I.dI e = z (.int kk))(y:I.size e = z 1)(C:a_ ks.length len = true)(W:ln n f len = true):
    ∀c ρ w D t,VR ρ (.map (z l)) D -> VR ρ (.agg (dx ks)) t -> Rel c ρ H w -> bp ρ w (ρ l) (.cT n f Q foc) ->
            ∃b N u, ρ l = z (b,N) /\ D = .map (z b) /\ t = iL ks /\ w.heap[b]? = z (.map (bT n f u).toArray n) /\ (∀i,i < n -> VR ρ (Q i) (u i)) /\ (getObj b).run P w = .ok (.map (bT n f u).toArray n) w /\
              (Instr.checkKey false 10000 kt (iL ks)).run P w = .ok () w /\ (∀o:Obj,(setObj b o).run P w = .ok () { w with heap := w.heap.setIfInBounds b o }) /\ b < w.heap.size /\
              (∀r,iM (DR I kt (.array len e)) (.agg (dx ks)) ((f_ n).map λi => (AV.agg (dx (f i)),Q i)) = z r -> match r with
                |none => (Instr.findKey kt (iL ks) (bT n f u)).run P w = .ok d_ w
                |some (i,_) => ∃m,(bT n f u)[i]? = z m /\ (Instr.findKey kt (iL ks) (bT n f u)).run P w = .ok (z (i,m.val)) w) := by
  intro c ρ w D t S E hr a
  have hl:ks.length = len := dE C
  simp only[VR]at S
  obtain⟨b,N,k,rfl⟩ := S
  rw[k]at a
  obtain⟨b',N',u,X,v,T,e4⟩ := a
  cases X
  have F:t = iL ks := by
    have U := E
    simp only[VR]at U
    obtain⟨vs,rfl,G⟩ := U
    have:∀(ks:List Int)(vs:List Value),aU ρ (dx ks) vs -> vs = ks.map λx => H_ g_ x := by
      intro ks
      induction ks with
      |nil => intro vs h; simpa [dx,aU]using h
      |cons x ks Y =>
        intro vs h
        simp only[dx,b_,aU]at h
        obtain⟨u,us,rfl,V,Z⟩ := h
        simp only[VR]at V
        rw[b_, <- Y us Z,V]
    rw[this ks vs G]; rfl
  subst F
  have J:(getObj b).run P w = .ok (.map (bT n f u).toArray n) w := by simp[getObj,Sem.run,v]
  have d:pX I (.array len e) (.agg (dx ks)) = true := by
    simp only[pX,j,y,List.all_eq_true,List.mem_range]
    intro i hi
    simp[apart,j,TypeDesc.agg,dx,mo (O:i < ks.length)]
  have K := run_checkKey (P := P) hI g d false 9998 E w
  obtain⟨v1,v2⟩ := Bu (f := f) T
  have q:∀o:Obj,(setObj b o).run P w = .ok () { w with heap := w.heap.setIfInBounds b o } :=λo => by simp only[setObj,Sem.run,v]
  have L:b < w.heap.size := (Array.getElem?_eq_some_iff.1 v).1
  refine⟨b,N,u,k,rfl,rfl,v,T,J,K,q,L,λr R => ?_⟩
  have s := gM (P := P) hI g E w R v1 v2
  cases r with
  |none => exact s
  |some p =>
    obtain⟨i,pv⟩ := p
    obtain⟨m,g1,g2,_⟩ := s
    exact⟨m,g1,g2⟩
include hX hI in
theorem Gg{t:TypeId}{n:Nat}{f:Nat->List Int}{Q:Nat->AV}{foc:Option (Nat×AV)}{ks:List Int}{v:AV}{H:AH}{l:Nat}{K:ai->R}(h:sem (Pp X I t n f Q foc ks v K)):
  ∃d,sem (K d)/\∀c ρ w E F q,VR ρ (.map (z l)) E->VR ρ (.agg (dx ks)) F->VR ρ v q->Rel c ρ H w->(H.get l).rw=true->bp ρ w (ρ l) (.cT n f Q foc)->∃w',(Instr.mapUpdate t E F q).run P w= .ok () w'/\Rel c ρ (H.set l d) w':=by
 unfold Pp at h
 split at h
 ·rename_i kt e hd
  split at h
  ·rename_i len et J
   split at h
   ·rename_i kk L S
    have G:=λa7 a8 c ρ w E F=>R0 (P:=P) hI (n:=n) (f:=f) (Q:=Q) (foc:=foc) (ks:=ks) (H:=H) (l:=l) J L S (a7:a_ ks.length len=true) (a8:ln n f len=true) c ρ w E F
    split at h
    ·rename_i T
     obtain⟨g,U⟩:=hX.ak _ _ h
     simp only[bf]at g
     have hl:ks.length=len:=dE g.1.1
     have bc:jD n f ks=d_:=by
      have:=g.2
      unfold Kv at this
      split at this
      ·cases this
      ·assumption
     refine⟨_,U,λc ρ w E F q hm hk hv hr V r=>?_⟩
     obtain⟨b,N,u,W,rfl,rfl,e2,e3,Y,Z,s,ad,k⟩:=G g.1.1 g.1.2 c ρ w E F hm hk hr r
     obtain⟨_,a2⟩:=mz (kk:=kk) J L S hl (f:=f) (Q:=λi=>Q i) (f_ n) (rc g.1.2)
     have bd:=k _ (a2 bc)
     have y:(Instr.mapUpdate t (.map (z b)) (iL ks) q).run P w= .ok () {w with heap:=w.heap.setIfInBounds b (Obj.map (bT (n+1) (cZ n f ks) (λi=>bif a_ i n then q else u i)).toArray (n+1))}:=by
      simp only[Instr.mapUpdate,Sem.run_bind,hI.aW w hd,Result.andThen_ok,Y,Z,bd,s,p_,tJ]
     refine⟨_,y,hr.fC _ V W (λi hi=>?_) zA A A A ?_⟩
     ·simp only[M];rw[if_neg (λe=>hi e.symm)]
     ·refine⟨b,N,λi=>bif a_ i n then q else u i,rfl,by simp only[M,if_true,ad],λi hi=>?_,λj a e=>?_⟩
      ·cases o:a_ i n with
       |true=>simp only[nz,o,cond_true];exact hv
       |false=>
        simp only[nz,o,cond_false]
        exact e3 i (by have:i≠n:=(λe=>by rw[e,ni]at o;cases o);omega)
      ·cases e
       exact⟨O,by show VR ρ v (bif a_ n n then q else u n);rw[ni];exact hv⟩
    ·rename_i j T
     obtain⟨g,U⟩:=hX.ak _ _ h
     simp only[bf]at g
     have hl:ks.length=len:=dE g.1
     have D:jD n f ks=z j:=by
      unfold Vu at T
      split at T
      ·rename_i j' a'
       split at T
       ·rename_i hg
        cases T
        unfold uI at hg
        split at hg
        ·rename_i i hi
         rw[hi,dE hg]
        ·cases hg
       ·cases T
      ·cases T
     have C:j<n/\f j=ks:=by
      unfold jD at D
      exact⟨List.mem_range.1 (List.mem_of_find?_eq_some D),by have:=List.find?_some D;simpa using this⟩
     refine⟨_,U,λc ρ w E F q hm hk hv hr V r=>?_⟩
     obtain⟨b,N,u,W,rfl,rfl,e2,e3,Y,Z,s,ad,k⟩:=G g.1 g.2 c ρ w E F hm hk hr r
     obtain⟨a1,_⟩:=mz (kk:=kk) J L S hl (f:=f) (Q:=λi=>Q i) (f_ n) (rc g.2)
     obtain⟨p,hp,ha⟩:=a1 j D
     have bi:p=j:=by
      obtain⟨b0,bq⟩:=List.getElem?_eq_some_iff.1 hp
      simpa using bq
     subst bi
     obtain⟨m,g1,g2⟩:=k _ ha
     have bs:m={key:=iL ks,val:=u p,born:=p}:=by
      simp only[bT,I_,v_ C.1,J_,fE]at g1
      rw[<-g1,C.2]
     subst bs
     have y:(Instr.mapUpdate t (.map (z b)) (iL ks) q).run P w= .ok () {w with heap:=w.heap.setIfInBounds b (Obj.map (bT n f (λi=>bif a_ i p then q else u i)).toArray n)}:=by
      have ap:(((bT n f u).toArray[p]?.map λx=>x.key).getD (iL ks))=iL ks:=by simp[g1]
      have ag:(Instr.keyThatStays (iL ks) (iL ks)).run P w= .ok (iL ks) w:=by
       simp[Instr.keyThatStays,xM]
      have a6:(bT n f u).toArray.modify p (λe=>{e with key:=iL ks,val:=q})=(bT n f (λi=>bif a_ i p then q else u i)).toArray:=by
       rw[<-vz C.1,C.2]
       obtain⟨hi,hm⟩:=List.getElem?_eq_some_iff.1 g1
       apply c_
       simp only[m_]
       apply i_
       intro j
       rw[j_,q_]
       by_cases hj:p=j
       ·subst hj;simp[hi,hm]
       ·simp[hj]
      simp only[Instr.mapUpdate,Sem.run_bind,hI.aW w hd,Result.andThen_ok,Y,Z,g2,ap,ag,a6,s]
     refine⟨_,y,hr.fC _ V W (λi hi=>?_) zA A A A ?_⟩
     ·simp only[M];rw[if_neg (λe=>hi e.symm)]
     ·refine⟨b,N,λi=>bif a_ i p then q else u i,rfl,by simp only[M,if_true,ad],λi hi=>?_,λj a e=>?_⟩
      ·cases o:a_ i p with
       |true=>simp only[yu,o,cond_true];exact hv
       |false=>simp only[yu,o,cond_false];exact e3 i hi
      ·cases e
       exact⟨C.1,by show VR ρ v (bif a_ p p then q else u p);rw[ni];exact hv⟩
   ·exact zR
  ·exact zR
 ·exact zR
def Sg(X:RI R)(I:ba)(t:TypeId)(n:Nat)(f:Nat->List Int)(Q:Nat->AV)(ks:List Int)(K:AV->ai->R):R :=
 match I.dI t with
 |some (.map kt e)=>match I.dI kt,I.zero e with
  |some (.array len b),z a=>match I.dI b,I.size b with
   |some (.int _),z 1=>X.ak (a_ ks.length len&&ln n f len&&Kv n f ks) (K (.bK [a,.int g_ (Int.ofNat n)]) (.cT (n+1) (cZ n f ks) (nz n Q a) (z (n,a))))
   |_,_=>X.fail
  |_,_=>X.fail
 |_=>X.fail
def sB(X:RI R)(I:ba)(t:TypeId)(m k:AV)(H:AH)(K:AV->AH->R):R :=
 match m,k with
 | .map (z l),.agg cs=>match H.get l,kK cs with
  | .cT n f Q _,z ks=>Sg X I t n f Q ks λa b=>K a (H.set l b)
  | .map [],z ks=>Sg X I t 0 (λ_=>[]) (λ_=> .any) ks λa b=>K a (H.set l b)
  |_,_=>X.fail
 |_,_=>X.fail
def om(X:RI R)(m s v:AV)(H:AH)(K:AH->R):R :=
 match m,s with
 | .map (z l),.int g_ j=>match H.get l with
  | .cT n f Q _=>X.ak (decide (0<=j)&&k_ j.toNat n) (K (H.set l (.cT n f (yu j.toNat Q v) (z (j.toNat,v)))))
  |_=>X.fail
 |_,_=>X.fail
theorem Vv{ρ:Env}{w:World}{o:Option (Nat×Nat)}(h:bp ρ w o (.map [])):bp ρ w o (.cT 0 (λ_=>[]) (λ_=> .any) d_):=by
 obtain⟨b,N,ms,c,g,f,Kf,k⟩:=h
 obtain⟨l,_⟩:=Kf.plain rfl
 have d:ms=[]:=by
  have:=l.length_eq
  simp only[h_,n_,s_]at this
  exact l_ this.symm
 subst d
 rw[k A]at f
 exact⟨b,N,λ_=> .bool true,g,f,λi hi=>absurd hi (lZ i),λj a e=>zG⟩
include hX hI in
theorem yv{t:TypeId}{n:Nat}{f:Nat->List Int}{Q:Nat->AV}{foc:Option (Nat×AV)}{ks:List Int}{H:AH}{l:Nat}{K:AV->ai->R}(h:sem (Sg X I t n f Q ks K)):
  ∃a d,sem (K a d)/\∀c ρ w E F,VR ρ (.map (z l)) E->VR ρ (.agg (dx ks)) F->Rel c ρ H w->(H.get l).rw=true->bp ρ w (ρ l) (.cT n f Q foc)->∃v w',(Instr.mapEntry t E F).run P w= .ok v w'/\Rel c ρ (H.set l d) w'/\VR ρ a v:=by
 unfold Sg at h
 split at h
 ·rename_i kt e hd
  split at h
  ·rename_i len et g r hz
   split at h
   ·rename_i kk s x
    obtain⟨k,G⟩:=hX.ak _ _ h
    simp only[bf]at k
    have hl:ks.length=len:=dE k.1.1
    have J:jD n f ks=d_:=by
     have:=k.2
     unfold Kv at this
     split at this
     ·cases this
     ·assumption
    refine⟨_,_,G,λc ρ w E F hm hk Z L y=>?_⟩
    obtain⟨b,N,u,S,rfl,rfl,e2,e3,T,U,C,V,p⟩:=R0 (P:=P) hI r s x k.1.1 k.1.2 c ρ w E F hm hk Z y
    obtain⟨_,a2⟩:=mz (kk:=kk) r s x hl (f:=f) (Q:=λi=>Q i) (f_ n) (rc k.1.2)
    have W:=p _ (a2 J)
    obtain⟨i,o,z1,z2,z3⟩:=hI.zero e g hz
    have Y:(zeroValue e).run P w= .ok o w:=by simp[zeroValue,typeInfo,Sem.run_bind,z1,z2]
    have q:VR ρ g o:=jZ ρ o g z3
    have D:(Instr.mapEntry t (.map (z b)) (iL ks)).run P w= .ok (.tuple #[o,goInt n]) {w with heap:=w.heap.setIfInBounds b (Obj.map (bT (n+1) (cZ n f ks) (λi=>bif a_ i n then o else u i)).toArray (n+1))}:=by
     simp only[Instr.mapEntry,Sem.run_bind,hI.aW w hd,Result.andThen_ok,T,U,W,Y,C,p_,tJ,Sem.run_pure]
    refine⟨_,_,D,Z.fC _ L S (λi hi=>?_) zA A A A ?_,?_⟩
    ·simp only[M];rw[if_neg (λe=>hi e.symm)]
    ·refine⟨b,N,λi=>bif a_ i n then o else u i,rfl,by simp only[M,if_true,V],λi hi=>?_,λj a e=>?_⟩
     ·cases m:a_ i n with
      |true=>simp only[nz,m,cond_true];exact q
      |false=>
       simp only[nz,m,cond_false]
       exact e3 i (by have:i≠n:=(λe=>by rw[e,ni]at m;cases m);omega)
     ·cases e
      exact⟨O,by show VR ρ g (bif a_ n n then o else u n);rw[ni];exact q⟩
    ·simp only[VR]
     exact⟨[o,goInt n],rfl,aU.aL.2 ⟨q,aU.aL.2 ⟨by simp only[VR];rfl,zH⟩⟩⟩
   ·exact zR
  ·exact zR
 ·exact zR
include hX hI in
theorem Sh{t:TypeId}{m k:AV}{H:AH}{K:AV->AH->R}(h:sem (sB X I t m k H K)):
  ∃a H',sem (K a H')/\∀c ρ w e g,VR ρ m e->VR ρ k g->Rel c ρ H w->∃v w',(Instr.mapEntry t e g).run P w= .ok v w'/\Rel c ρ H' w'/\VR ρ a v:=by
 unfold sB at h
 split at h
 ·rename_i l cs
  split at h
  ·rename_i n f Q foc ks i d
   cases jG d
   obtain⟨a,b,o,p⟩:=yv hX hI (l:=l) (H:=H) (foc:=foc) h
   exact⟨a,_,o,λc ρ w e g q r j=>p c ρ w e g q r j (by rw[i];rfl) (by have:=j.dF l;rw[i]at this;exact this)⟩
  ·rename_i ks i d
   cases jG d
   obtain⟨a,b,o,p⟩:=yv hX hI (l:=l) (H:=H) (foc:=d_) h
   exact⟨a,_,o,λc ρ w e g q r j=>p c ρ w e g q r j (by rw[i];rfl) (Vv (by have:=j.dF l;rw[i]at this;exact this))⟩
  ·exact zR
 ·exact zR
include hX in
theorem zU{t:TypeId}{m s v:AV}{H:AH}{K:AH->R}(h:sem (om X m s v H K)):
  ∃H',sem (K H')/\∀c ρ w G I d,VR ρ m G->VR ρ s I->VR ρ v d->Rel c ρ H w->∃w',(Instr.entryStore t G I d).run P w= .ok () w'/\Rel c ρ H' w':=by
 unfold om at h
 split at h
 ·rename_i l j
  split at h
  ·rename_i n f Q foc W
   obtain⟨x,J⟩:=hX.ak _ _ h
   simp only[bf,bn,t_]at x
   obtain⟨h0,r⟩:=x
   refine⟨_,J,λc ρ w G I d Y Z hv hr=>?_⟩
   obtain⟨p,rfl⟩:∃p:Nat,j=(p:Int):=⟨j.toNat,O⟩
   rw[Int.toNat_natCast]at r⊢
   simp only[VR]at Y Z
   obtain⟨b,N,y,rfl⟩:=Y
   subst Z
   have q:=hr.dF l
   rw[W,y]at q
   obtain⟨b',N',u,e1,L,e3,e4⟩:=q
   cases e1
   have S:(getObj b).run P w= .ok (.map (bT n f u).toArray n) w:=by simp[getObj,Sem.run,L]
   have C:∀o:Obj,(setObj b o).run P w= .ok () {w with heap:=w.heap.setIfInBounds b o}:=λo=>by simp only[setObj,Sem.run,L]
   have T:b<w.heap.size:=(Array.getElem?_eq_some_iff.1 L).1
   have U:(bT n f u).toArray.findIdx? (λe=>(e.born:Int)==(p:Int))=z p:=by
    rw[List.findIdx?_toArray,List.findIdx?_eq_some_iff_getElem]
    refine⟨by simpa [bT]using r,by simp[bT],λk hk=>by simp[bT];omega⟩
   have D:(bT n f u).toArray.modify p (λe=>{e with val:=d})=(bT n f (λi=>bif a_ i p then d else u i)).toArray:=by
    rw[<-vz r]
    apply c_
    simp only[m_]
    apply i_
    intro j
    rw[j_,q_]
    by_cases hj:p=j
    ·subst hj
     have:(bT n f u)[p]? =z {key:=iL (f p),val:=u p,born:=p}:=by simp[bT,v_ r]
     have hl:p<(bT n f u).length:=by simpa [bT]using r
     obtain⟨_,g⟩:=List.getElem?_eq_some_iff.1 this
     simp[hl,g]
    ·simp[hj]
   have V:(asInt (.int g_ (p:Int))).run P w= .ok (p:Int) w:=by simp[asInt,asIntOf]
   have E:(Instr.entryStore t (.map (z b)) (.int g_ (p:Int)) d).run P w= .ok () {w with heap:=w.heap.setIfInBounds b (Obj.map (bT n f (λi=>bif a_ i p then d else u i)).toArray n)}:=by
    simp only[Instr.entryStore,V,Sem.run_bind,Sem.run_pure,Result.andThen_ok,S,U,D,C]
   refine⟨_,E,hr.fC _ (by rw[W];rfl) y (λi hi=>?_) zA A A A ?_⟩
   ·simp only[M];rw[if_neg (λe=>hi e.symm)]
   ·refine⟨b,N,λi=>bif a_ i p then d else u i,rfl,by simp only[M,if_true,T],λi hi=>?_,λj a e=>?_⟩
    ·cases F:a_ i p with
     |true=>simp only[yu,F,cond_true];exact hv
     |false=>simp only[yu,F,cond_false];exact e3 i hi
    ·cases e
     exact⟨r,by show VR ρ v (bif a_ p p then d else u p);rw[ni];exact hv⟩
  ·exact zR
 ·exact zR
include hX hI in
theorem KG{t:TypeId}{m k v:AV}{H:AH}{K:AH->R}(h:sem (KF X I t m k v H K)):
  ∃H',sem (K H')/\∀c ρ w o p q,VR ρ m o->VR ρ k p->VR ρ v q->Rel c ρ H w->∃w',(Instr.mapUpdate t o p q).run P w= .ok () w'/\Rel c ρ H' w':=by
 unfold KF at h
 split at h
 ·rename_i l cs
  split at h
  ·rename_i n f Q foc ks r g
   cases jG g
   obtain⟨d,u,x⟩:=Gg hX hI (l:=l) (H:=H) h
   exact⟨_,u,λc ρ w o p q y C D s=>x c ρ w o p q y C D s (by rw[r];rfl) (by have:=s.dF l;rw[r]at this;exact this)⟩
  ·rename_i ks r g
   cases ha:RZ I t with
   |false=>rw[ha]at h;exact qq hX hI h
   |true=>
    rw[ha,cond_true]at h
    cases jG g
    obtain⟨d,u,x⟩:=Gg hX hI (l:=l) (H:=H) h
    refine⟨_,u,λc ρ w o p q y C D s=>x c ρ w o p q y C D s (by rw[r];rfl) ?_⟩
    have:=s.dF l
    rw[r]at this
    obtain⟨b,N,ms,E,J,G,Kf,L⟩:=this
    obtain⟨O,_⟩:=Kf.plain rfl
    have F:ms=[]:=by
     have:=O.length_eq
     simp only[h_,n_,s_]at this
     exact l_ this.symm
    subst F
    rw[L A]at G
    exact⟨b,N,λ_=> .bool true,J,G,λi hi=>absurd hi (lZ i),λj a e=>zG⟩
  ·exact qq hX hI h
 ·exact qq hX hI h
end
def fw.xN(c:fw)(ρ:Env)(H:AH)(w:World)(L:Nat->Prop):fw :=
 {w0:=w
  Z:=λk=>c.Z k∨∃l N,L l/\H.get l≠ .dead/\(H.get l).rw=false/\ρ l=z (k,N)
  G:=c.G
  X:=λk=>c.X k∨∃l N,L l/\(H.get l).rw=true/\ρ l=z (k,N)
  E:=λl=>l<H.n
  DI:=ρ}
theorem Rel.xN{c:fw}{ρ:Env}{H:AH}{w:World}(h:Rel c ρ H w){L:Nat->Prop}{HM:AH}(hn:HM.n=H.n)(u:∀l,(L l/\HM.get l= .dead)∨(¬ L l/\HM.get l=H.get l)):
  Rel (c.xN ρ H w L) ρ HM w:=by
 have dj:∀{b:ai},b.rw=true->b≠ .dead:=λh e=>by rw[e]at h;cases h
 have q:∀l,HM.get l≠ .dead->¬ L l/\HM.get l=H.get l:=Y
 refine⟨λl=>?_,λl i r N j s a m d=>?_,λl r N a m t=>?_,λk f=>?_,dw _,rfl,rfl,rfl,λl hl=>h.top l O,h.fp,λl r N o m hx=>?_,λl hl=>⟨by rw[hn];exact hl,rfl⟩,λl hl=>(u l).elim (λe=>e.2) (λe=>e.2.trans (h.low l O)),h.qY,λl r N a m=>?_,λk f=>?_,λ_ _ e=>e⟩
 ·rcases u l with⟨_,e⟩|⟨_,e⟩
  ·rw[e];trivial
  ·rw[e];exact h.dF l
 ·obtain⟨_,e⟩:=q l (dj a)
  rw[e]at a
  have:=h.sep l i r N j s a m d
  grind
 ·obtain⟨hl,e⟩:=q l (dj a)
  rw[e]at a
  rcases t with t|⟨i,j,hL,o,v,d⟩
  ·exact h.gL l r N a m t
  ·exact o (h.sep l i r N j (λe=>hl (e▸hL)) a m d)
 ·refine⟨?_,rfl⟩
  have old:∀k,c.Z k∨c.X k->k<w.heap.size:=λk f=>Nat.lt_of_lt_of_le (h.gH k f).1 h.size
  rcases f with(f|⟨i,j,hL,o,_,d⟩)|(f|⟨i,j,hL,a,d⟩)
  ·exact old k (.inl f)
  ·exact h.lt o d
  ·exact old k (.inr f)
  ·exact h.lt (dj a) d
 ·obtain⟨hl,e⟩:=q l o
  rw[e]at o
  rcases hx with hx|⟨i,j,hL,a,d⟩
  ·exact h.hid l r N o m hx
  ·exact o (h.sep i l r j N (λe=>hl (e▸hL)) a d m)
 ·obtain⟨_,e⟩:=q l (dj a)
  rw[e]at a
  exact h.pV l r N a m
 ·rcases f with f|⟨i,j,hL,a,d⟩
  ·exact h.xw k f
  ·exact h.pV i k j a d
theorem Rel.KH{c:fw}{ρ ρ':Env}{H H' H2:AH}{w w':World}(h:Rel c ρ H w){L:Nat->Prop}(f:Rel (c.xN ρ H w L) ρ' H' w')
  (hn:H2.n=H'.n) (t:∀l,(L l/\H2.get l=H.get l)∨(¬ L l/\H2.get l=H'.get l)):Ext ρ ρ'/\Rel c ρ' H2 w':=by
 have dj:∀{b:ai},b.rw=true->b≠ .dead:=λh e=>by rw[e]at h;cases h
 have env:∀l,l<H.n->l<H'.n/\ρ' l=ρ l:=λl hl=>f.env l hl
 have hx:Ext ρ ρ':=by
  refine⟨λl x e=>?_,f.qZ⟩
  have:l<H.n:=Nat.lt_of_not_le λE=>by rw[h.top l E]at e;cases e
  rw[(env l this).2];exact e
 have low:∀l,H.get l≠ .dead->l<H.n:=λl i=>h.below i
 have u:∀l r N,L l->H.get l≠ .dead->ρ l=z (r,N)->(c.xN ρ H w L).Z r∨(c.xN ρ H w L).X r:=λl r N hL i d=>by
  cases a:(H.get l).rw with
  |true=>exact .inr (.inr ⟨l,N,hL,a,d⟩)
  |false=>exact .inl (.inr ⟨l,N,hL,i,a,d⟩)
 refine⟨hx,λl=>?_,λl m r N C y a d o=>?_,λl r N a d q=>?_,λk D=>?_,Nat.le_trans h.size f.size,f.os.trans h.os,f.output.trans h.output,f.tape.trans h.tape,λl hl=>f.top l O,f.fp,λl r N i d q=>?_,λl hl=>?_,λl hl=>?_,f.qY,λl r N a d=>?_,λk D=>f.xw k (.inl D),λk vs e=>f.qZ k vs (h.qZ k vs e)⟩
 ·rcases t l with⟨hL,e⟩|⟨_,e⟩
  ·rw[e]
   by_cases i:H.get l= .dead
   ·rw[i];trivial
   ·rw[(env l (low l i)).2]
    exact bp.world (λr N e=>(f.gH r (u l r N hL i e)).2) ((h.dF l).ext hx)
  ·rw[e];exact f.dF l
 ·rcases t l with⟨hL,e⟩|⟨hL,e⟩
  ·rw[e]at a
   have i:=dj a
   rw[(env l (low l i)).2]at d
   rcases t m with⟨s,v⟩|⟨s,v⟩
   ·rw[v]
    apply o_
    intro j
    rw[(env m (low m j)).2]at o
    exact j (h.sep l m r N C y a d o)
   ·rw[v]
    apply o_
    intro j
    exact f.hid m r C j o (.inr ⟨l,N,hL,a,d⟩)
  ·rw[e]at a
   rcases t m with⟨s,v⟩|⟨s,v⟩
   ·rw[v]
    apply o_
    intro j
    rw[(env m (low m j)).2]at o
    rcases u m r C s j o with q|q
    ·exact f.gL l r N a d q
    ·exact f.hid l r N (dj a) d q
   ·rw[v]
    exact f.sep l m r N C y a d o
 ·rcases t l with⟨hL,e⟩|⟨hL,e⟩
  ·rw[e]at a
   rw[(env l (low l (dj a))).2]at d
   exact h.gL l r N a d q
  ·rw[e]at a
   exact f.gL l r N a d (.inl q)
 ·obtain⟨d,o⟩:=h.gH k D
  exact⟨d,((f.gH k (D.imp .inl .inl)).2).trans o⟩
 ·rcases t l with⟨hL,e⟩|⟨hL,e⟩
  ·rw[e]at i
   rw[(env l (low l i)).2]at d
   exact h.hid l r N i d q
  ·rw[e]at i
   exact f.hid l r N i d (.inl q)
 ·obtain⟨d,o⟩:=h.env l hl
  grind
 ·rcases t l with⟨_,e⟩|⟨_,e⟩
  grind
  ·rw[e];exact f.low l O
 ·rcases t l with⟨hL,e⟩|⟨hL,e⟩
  ·rw[e]at a
   rw[(env l (low l (dj a))).2]at d
   exact f.xw r (.inr ⟨l,N,hL,a,d⟩)
  ·rw[e]at a
   exact f.pV l r N a d
end
section
inductive CO where
 |ret (a:AV) (H:AH)
 |qt (a:AV) (H:AH)
def CO.sem{R:Type}(sem:R->Prop)(b kp:AV->AH->R):CO->Prop
 | .ret a H=>sem (b a H)
 | .qt a H=>sem (kp a H)
def WF(ro:Option Nat):Fence:={Fence.wide with round:=ro}
def CO.post(o:CO)(c:fw)(ρ:Env)(e:Ending)(w':World):Prop :=
 match o,e with
 | .ret a H,.returned v=> ∃ρ',Ext ρ ρ'/\Rel c ρ' H w'/\VR ρ' a v
 | .qt a H,.panicked b=> ∃ρ' v,b=[{v,recovered:=false}]/\Ext ρ ρ'/\Rel c ρ' H w'/\VR ρ' a v
 |_,_=>False
def af(P:Program)(I:ba)(f:FuncId)(args:List AV)(H:AH)(o:CO):Prop :=
 ∀c ρ w vs,c.G=I.G->aU ρ args vs->Rel c ρ H w->
  ((callFunc f vs.toArray).run P w= .ok (.enter f vs.toArray) w/\Calls P f vs.toArray w (o.post c ρ))∨
  (∃v w',(callFunc f vs.toArray).run P w= .ok (.value v) w'/\o.post c ρ (.returned v) w')
abbrev iQ(R:Type):=FuncId->List AV->AH->(AV->AH->R)->(AV->AH->R)->R
def gN{R:Type}(P:Program)(I:ba)(sem:R->Prop)(a:iQ R):Prop :=
 ∀f args H b kp,sem (a f args H b kp)->∃o:CO,o.sem sem b kp/\af P I f args H o
def D2(P:Program)(I:ba)(l:Nat)(args:List AV)(H:AH)(a:AV)(H':AH):Prop :=
 ∀c ρ w vs b N,c.G=I.G->aU ρ args vs->Rel c ρ H w->ρ l=z (b,N)->
  ∃f tmps as d,(Instr.yield b vs.toArray).run P w= .ok (.round b f tmps as d) w/\∀n,RoundIn (WF d_) n P b f tmps as d w ((CO.ret a H').post c ρ)
abbrev gZ(R:Type):=Nat->List AV->AH->(AV->AH->R)->R
def hZ{R:Type}(P:Program)(I:ba)(sem:R->Prop)(round:gZ R):Prop :=
 ∀l args H b,sem (round l args H b)->∃a H',sem (b a H')/\D2 P I l args H a H'
section
variable {R:Type} {X:RI R} {sem:R->Prop} (hX:X.Ok sem) {I:ba} {P:Program} (hI:I.Ok P)
def Pq(X:RI R)(I:ba)(d:iQ R)(round:gZ R)(o:Oper)(ev:Operand->AV)(H:AH)(c kp:AV->AH->R):R :=
 match o.op with
 | .store t a x=>DZ X I t (ev a) (ev x) H (λH'=>c (.bK []) H')
 | .mapUpdate t m k v=>KF X I t (ev m) (ev k) (ev v) H (λH'=>c (.bK []) H')
 | .mapEntry t m k=>sB X I t (ev m) (ev k) H c
 | .entryStore t m s x=>om X (ev m) (ev s) (ev x) H (λH'=>c (.bK []) H')
 | .insert t m k v=>lj X I t (ev m) (ev k) (ev v) H (λH'=>c (.bK []) H')
 | .panic x=>match ev x with
  | .iface t v=>kp (.iface t v) H
  |_=>X.fail
 | .call {callee:=.value f,args,..}=>match ev f with
  | .fn g first h=>d g (first++args.toList.map ev++h) H c kp
  | .yield l=>round l (args.toList.map ev) H c
  |_=>X.fail
 | .call {callee:=.builtin .append,args,argTypes}=>match args.toList,argTypes.toList with
  |[a,b],[s,t]=>Sb X I s t (ev a) (ev b) H c
  |_,_=>X.fail
 | .call {callee:=.builtin .copy,args,argTypes}=>match args.toList,argTypes.toList with
  |[a,b],s::_=>KC X I s (ev a) (ev b) H c
  |_,_=>X.fail
 | .call {callee:=.builtin .unsafeSliceData,args,..}=>match args.toList with
  |[a]=>match ev a with
   | .aw=>c .nilPtr H
   | .own l len e=>X.ak (decide (0<len)) (c (.ptr l 0 e 0) H)
   |_=>X.fail
  |_=>X.fail
 | .call {callee:=.builtin .unsafeString,args,argTypes}=>match args.toList,argTypes.toList with
  |[p,n],[q,_]=>match ev p,ev n with
   | .nilPtr,.int g_ m=>X.ak (decide (m=0)) (c (.str []) H)
   | .ptr l k e j,.int g_ m=>match I.dI q,(H.get l).acc with
    |some (.pointer u),.ty t=>match I.size u,(H.get l).bytes 0 m.toNat with
     |some 1,z (ok,r)=>X.ak (ok&&a_ t u&&a_ (k*e+j) 0&&decide (0<m)&&decide (m<=9223372036854775807)&&(H.get l).rw) (c (.str r) (H.set l .dead))
     |_,_=>X.fail
    |_,_=>X.fail
   |_,_=>X.fail
  |_,_=>X.fail
 | .range t x=>match I.dI t,ev x with
  |some (.map _ _),.map (z l)=>match H.get l with
   | .map []=>c (.ptr H.n 0 0 0) (H.new (.iter l))
   | .iy n _=>c (.ptr H.n 0 0 0) (H.new (.dX l n []))
   | .cT n _ _ _=>c (.ptr H.n 0 0 0) (H.new (.dX l n []))
   |_=>X.fail
  |_,_=>X.fail
 | .next it false=>match ev it with
  | .ptr i 0 0 0=>match H.get i with
   | .iter l=>match H.get l with
    | .map []=>c (.bK [.bool false]) H
    |_=>X.fail
   | .dX l n S=>match H.get l with
    | .cT m f _ (z (j,a))=>match S with
     |[]=>X.ak (a_ n 1&&a_ m 1&&a_ j 0) (c (.bK [.bool true,.agg (dx (f 0)),a]) (H.set i (.dX l n [0])))
     |x::_=>X.ak (a_ n 1&&a_ m 1&&a_ x 0) (c (.bK [.bool false]) H)
    |_=>X.fail
   |_=>X.fail
  |_=>X.fail
 | .entry it=>match ev it with
  | .ptr i 0 0 0=>match H.get i with
   | .dX l n (j::_)=>match H.get l with
    | .iy m f=>X.ak (a_ n m&&k_ j n) (c (.bK [.int g_ (f j),.bool true]) H)
    | .cT m f _ (z (x,a))=>X.ak (a_ n m&&k_ j n&&a_ x j) (c (.bK [.agg (dx (f j)),a]) H)
    |_=>X.fail
   |_=>X.fail
  |_=>X.fail
 |_=>DW X I o ev H c
theorem vB{n j:Nat}{f:Nat->Int}(h:j<n):({key:=.int g_ (f j),val:=.bool true,born:=j}:MapEntry)∈(dM n f).toArray.toList :=
 List.mem_map.2 ⟨j,List.mem_range.2 h,rfl⟩
theorem Si(n)(f):((dM n f).toArray.toList.map (·.born)).Nodup:=by
 have:(dM n f).toArray.toList.map (·.born)=f_ n:=by
  simp[dM,z_]
 grind
def rj(P:Program)(I:ba)(o:Oper)(ev:Operand->AV)(H:AH)(out:CO):Prop :=
 ∀ro n c ρ w (a:Act) (next:Act->World->Prop) (Q:Exit->Act->World->Prop),c.G=I.G->(∀x,VR ρ (ev x) (a.eval x))->Rel c ρ H w->
  (∀v H' u w' ρ',out= .ret v H'->Ext ρ ρ'->Rel c ρ' H' w'->VR ρ' v u->next (a.put o.dst u) w')->
  (∀v H' u w' ρ',out= .qt v H'->Ext ρ ρ'->Rel c ρ' H' w'->VR ρ' v u->Q (.panic [{v:=u,recovered:=false}]) a w')->
  o.wpIn (WF ro) n P a w next Q
theorem iA{o:Oper}{w}{a:Act}{P ro}:∀f,o.about P w a.eval=z f->(WF ro).fn f:=λ_ _=>trivial
theorem Be{o ev H K}(hX:X.Ok sem)(h:sem (DW X I o ev H K)):∀c,o.op≠ .defer c:=by
 intro c a
 unfold DW at h
 rw[a]at h
 exact hX.fail h
include hX hI in
theorem Pr{o:Oper}{ev:Operand->AV}{H:AH}{b kp:AV->AH->R}(h:sem (DW X I o ev H b)):∃out:CO,out.sem sem b kp/\rj P I o ev H out:=by
 have d:=Be hX h
 obtain⟨v,H',e,f⟩:=Gd hX hI h
 refine⟨.ret v H',e,λro n c ρ w a next Q hG g i hn p=>⟨iA,?_⟩⟩
 obtain⟨u,w',ρ',j,k,l,m,_⟩:=f c ρ w a.eval g i
 rw[Oper.semAt_eq _ _ _ d,j,Oper.uponIn_value]
 exact hn v H' u w' ρ' A k l m
theorem uN{o ev H H'}{s:(Operand->Value)->Sem Unit}(b:∀c,o.op≠ .defer c)(d:∀e,execOp e o=(do s e;pure .skip))
  (h:∀c ρ w (e),(∀x,VR ρ (ev x) (e x))->Rel c ρ H w->∃w',(s e).run P w= .ok () w'/\Rel c ρ H' w'):rj P I o ev H (.ret (.bK []) H'):=by
 intro ro n c ρ w a next Q hG f g hn k
 refine⟨iA,?_⟩
 obtain⟨w',i,j⟩:=h c ρ w a.eval f g
 rw[Oper.semAt_eq _ _ _ b,d]
 simp only[Sem.run_bind,i,Result.andThen_ok,Sem.run_pure,Oper.uponIn_skip]
 exact hn _ _ _ w' ρ A (Ext.refl _) j (by simp only[VR];exact⟨[],rfl,zH⟩)
theorem lY{o ev H H' v}(d:∀c,o.op≠ .defer c)
  (h:∀c ρ w (e),(∀x,VR ρ (ev x) (e x))->Rel c ρ H w->∃b w' ρ',(execOp e o).run P w= .ok (.value b) w'/\Ext ρ ρ'/\Rel c ρ' H' w'/\VR ρ' v b):rj P I o ev H (.ret v H'):=by
 intro ro n c ρ w a next Q hG f g hn j
 refine⟨iA,?_⟩
 obtain⟨b,w',ρ',i,k,l,m⟩:=h c ρ w a.eval f g
 rw[Oper.semAt_eq _ _ _ d,i,Oper.uponIn_value]
 grind
include hX hI in
theorem D3{b7:iQ R}(b8:gN P I sem b7){round:gZ R}(b6:hZ P I sem round){o:Oper}{ev:Operand->AV}{H:AH}{kn kp:AV->AH->R}(h:sem (Pq X I b7 round o ev H kn kp)):
  ∃out:CO,out.sem sem kn kp/\rj P I o ev H out:=by
 unfold Pq at h
 split at h
 ·rename_i t a x E
  obtain⟨H',T,W⟩:=HT hX hI h
  refine⟨.ret (.bK []) H',T,uN (s:=λe=>Instr.storeAt t (e a) (e x)) (by simp[E]) (λe=>by simp[execOp,E]) λc ρ w e C D=>W c ρ w _ _ (C a) (C x) D⟩
 ·rename_i t m k v E
  obtain⟨H',T,W⟩:=KG hX hI h
  refine⟨.ret (.bK []) H',T,uN (s:=λe=>Instr.mapUpdate t (e m) (e k) (e v)) (by simp[E]) (λe=>by simp[execOp,E]) λc ρ w e C D=>W c ρ w _ _ _ (C m) (C k) (C v) D⟩
 ·rename_i t m k E
  obtain⟨a,H',T,W⟩:=Sh hX hI h
  refine⟨.ret a H',T,lY (by simp[E]) λc ρ w e C D=>?_⟩
  obtain⟨v,w',k1,k2,k3⟩:=W c ρ w _ _ (C m) (C k) D
  exact⟨v,w',ρ,by simp[execOp,E,k1],Ext.refl _,k2,k3⟩
 ·rename_i t m s x E
  obtain⟨H',T,W⟩:=zU hX (P:=P) (t:=t) h
  refine⟨.ret (.bK []) H',T,uN (s:=λe=>Instr.entryStore t (e m) (e s) (e x)) (by simp[E]) (λe=>by simp[execOp,E]) λc ρ w e C D=>W c ρ w _ _ _ (C m) (C s) (C x) D⟩
 ·rename_i t m k v E
  obtain⟨H',T,W⟩:=l3 hX hI h
  refine⟨.ret (.bK []) H',T,uN (s:=λe=>Instr.mapUpdate t (e m) (e k) (e v)) (by simp[E]) (λe=>by simp[execOp,E]) λc ρ w e C D=>W c ρ w _ _ _ (C m) (C k) (C v) D⟩
 ·rename_i x E
  split at h
  ·rename_i t v hx
   refine⟨.qt (.iface t v) H,h,λro n c ρ w a next Q hG C D hn hp=>⟨iA,?_⟩⟩
   have y:=C x
   rw[hx]at y
   have cp:=y
   simp only[VR]at cp
   obtain⟨u,hu,_⟩:=cp
   have G:(execOp a.eval o).run P w= .halt (.panic (.iface t u)) w:=by
    simp only[execOp,E,hu,Instr.panic]
    simp[goPanic,Sem.run]
   rw[Oper.semAt_eq _ _ _ (by simp[E]),G,Oper.uponIn_panic]
   rw[hu]at y
   exact hp _ _ _ w ρ A (Ext.refl _) D y
  ·exact zR
 ·rename_i f args a6 E
  have a8:∀{ρ:Env}{e:Operand->Value},(∀x,VR ρ (ev x) (e x))->aU ρ (args.toList.map ev) (args.toList.map e):=λC=>aU.of_map C args.toList
  split at h
  ·rename_i g first ef hf
   obtain⟨out,T,W⟩:=b8 _ _ _ _ _ h
   refine⟨out,T,λro n c ρ w a next Q hG C D hn hp=>⟨iA,?_⟩⟩
   have y:=C f
   rw[hf]at y
   simp only[VR]at y
   obtain⟨us,vs,b9,cr,cv⟩:=y
   have G:(execOp a.eval o).run P w=(callFunc g (us++args.toList.map a.eval++vs).toArray).run P w:=by
    have V:us.toArray++args.map a.eval++vs.toArray=(us++args.toList.map a.eval++vs).toArray:=by apply c_;simp
    simp only[execOp,E,resolve,b9,Deferred.ofValue,Sem.run_bind,Sem.run_pure,Result.andThen_ok,invoke,V]
   rw[Oper.semAt_eq _ _ _ (by simp[E]),G]
   rcases W c ρ w _ hG ((cr.append (a8 C)).append cv) D with⟨k1,k2⟩|⟨v,w',k1,k2⟩
   ·rw[k1,Oper.uponIn_enter]
    refine⟨λhh=>by simp[WF,Fence.wide]at hh,?_⟩
    have:CallsIn Fence.wide (n-1) P g (us++args.toList.map a.eval++vs).toArray w (out.post c ρ):=callsIn_wide.2 k2
    refine CallsIn.mono (F:=WF ro) (show CallsIn (WF ro) (n-1) P g _ w (out.post c ρ)from this) λe w' L=>?_
    cases out with
    |ret v H'=>
     cases e with
     |returned u=>
      obtain⟨ρ',p1,p2,p3⟩:=L
      exact hn v H' u w' ρ' A p1 p2 p3
     |panicked ch=>exact L.elim
     |outgrown=>exact L.elim
    |qt v H'=>
     cases e with
     |returned u=>exact L.elim
     |panicked ch=>
      obtain⟨ρ',u,rfl,p1,p2,p3⟩:=L
      exact hp v H' u w' ρ' A p1 p2 p3
     |outgrown=>exact L.elim
   ·rw[k1,Oper.uponIn_value]
    cases out with
    |ret v' H'=>
     obtain⟨ρ',p1,p2,p3⟩:=k2
     exact hn v' H' v w' ρ' A p1 p2 p3
    |qt v' H'=>exact k2.elim
  ·rename_i l hf
   obtain⟨b,H',T,W⟩:=b6 _ _ _ _ h
   refine⟨.ret b H',T,λro n c ρ w a next Q hG C D hn hp=>⟨iA,?_⟩⟩
   have y:=C f
   rw[hf]at y
   simp only[VR]at y
   obtain⟨bb,N,hl,b9⟩:=y
   obtain⟨fn,tmps,as,bd,k1,k2⟩:=W c ρ w _ bb N hG (a8 C) D hl
   have G:(execOp a.eval o).run P w= .ok (.round bb fn tmps as bd) w:=by
    have V : #[]++args.map a.eval=(args.toList.map a.eval).toArray:=by apply c_;simp
    simp only[execOp,E,resolve,b9,Deferred.ofValue,Sem.run_bind,Sem.run_pure,Result.andThen_ok,invoke,V]
    exact k1
   rw[Oper.semAt_eq _ _ _ (by simp[E]),G,Oper.uponIn_round]
   refine⟨λhh=>by simp[WF,Fence.wide]at hh,?_⟩
   refine RoundIn.mono (F:=WF ro) (show RoundIn (WF ro) (n-1) P bb fn tmps as bd w ((CO.ret b H').post c ρ)from k2 (n-1)) λe w' L=>?_
   cases e with
   |returned u=>
    obtain⟨ρ',p1,p2,p3⟩:=L
    exact hn b H' u w' ρ' A p1 p2 p3
   |panicked ch=>exact L.elim
   |outgrown=>exact L.elim
  ·exact zR
 ·rename_i args a6 E
  split at h
  ·rename_i a b s t ha bc
   obtain⟨v,H',T,W⟩:=D1 hX hI h
   refine⟨.ret v H',T,lY (by simp[E]) λc ρ w e C D=>?_⟩
   obtain⟨v',w',ρ',k1,k2⟩:=W c ρ w (e a) (e b) o.type (C a) (C b) D
   have V:args.map e= #[e a,e b]:=by apply c_;simp[ha]
   have e2:a6= #[s,t]:=by apply c_;simp[bc]
   refine⟨v',w',ρ',?_,k2⟩
   simp only[execOp,E,resolve,Sem.run_bind,Sem.run_pure,Result.andThen_ok,invoke,builtin,V,e2,k1]
  ·exact zR
 ·rename_i args a6 E
  split at h
  ·rename_i a b s ts ha bc
   obtain⟨v,H',T,W⟩:=KD hX hI h
   refine⟨.ret v H',T,lY (by simp[E]) λc ρ w e C D=>?_⟩
   obtain⟨v',w',ρ',k1,k2⟩:=W c ρ w (e a) (e b) a6 o.type (by rw[<-Array.getElem?_toList,bc];rfl) (C a) (C b) D
   have V:args.map e= #[e a,e b]:=by apply c_;simp[ha]
   refine⟨v',w',ρ',?_,k2⟩
   simp only[execOp,E,resolve,Sem.run_bind,Sem.run_pure,Result.andThen_ok,invoke,builtin,V,k1]
  ·exact zR
 ·rename_i args a6 E
  split at h
  ·rename_i a ha
   have V:∀e:Operand->Value,args.map e= #[e a]:=λe=>by apply c_;simp[ha]
   split at h
   ·rename_i hx
    refine⟨.ret .nilPtr H,h,lY (by simp[E]) λc ρ w e C D=>?_⟩
    have y:=C a
    rw[hx]at y
    simp only[VR]at y
    refine⟨.pointer d_,w,ρ,?_,Ext.refl _,D,zB⟩
    simp only[execOp,E,resolve,Sem.run_bind,Sem.run_pure,Result.andThen_ok,invoke,builtin,V,y,Lib.run_unsafeSliceData_nil]
   ·rename_i l len e0 hx
    obtain⟨T,W⟩:=hX.ak _ _ h
    simp only[bn]at T
    refine⟨.ret (.ptr l 0 e0 0) H,W,lY (by simp[E]) λc ρ w e C D=>?_⟩
    have y:=C a
    rw[hx]at y
    simp only[VR]at y
    rcases y with⟨h0,_⟩|⟨b,N,cc,hb,y,hle,_⟩
    ·omega
    ·refine⟨.pointer (z ⟨b,0,d_⟩),w,ρ,?_,Ext.refl _,D,by simp only[VR];exact⟨b,N,hb,zA⟩⟩
     have a7:∀ts ty,(Builtin.unsafeSliceData_ ts ty #[.slice (z ⟨b,0,d_⟩) len cc]).run P w= .ok (.pointer (z ⟨b,0,d_⟩)) w:=λts ty=>Lib.run_unsafeSliceData_row w ts ty _ _ _ O
     simp only[execOp,E,resolve,Sem.run_bind,Sem.run_pure,Result.andThen_ok,invoke,builtin,V,y,a7]
   ·exact zR
  ·exact zR
 ·rename_i args a6 E
  split at h
  ·rename_i p n pt it ha bc
   have V:∀e:Operand->Value,args.map e= #[e p,e n]:=λe=>by apply c_;simp[ha]
   have e2:a6= #[pt,it]:=by apply c_;simp[bc]
   split at h
   ·rename_i m hp hn
    obtain⟨T,W⟩:=hX.ak _ _ h
    simp only[bn]at T
    subst T
    refine⟨.ret (.str []) H,W,lY (by simp[E]) λc ρ w e C D=>?_⟩
    have ad:=C p
    have ag:=C n
    rw[hp]at ad
    rw[hn]at ag
    simp only[VR]at ad ag
    refine⟨.string .empty,w,ρ,?_,Ext.refl _,D,by simp only[VR];rfl⟩
    simp only[execOp,E,resolve,Sem.run_bind,Sem.run_pure,Result.andThen_ok,invoke,builtin,V,e2,ad,ag,Lib.run_unsafeString_none]
   ·rename_i l k e0 j m hp hn
    split at h
    ·rename_i u t hu K
     split at h
     ·rename_i ok bs cx c6
      obtain⟨T,W⟩:=hX.ak _ _ h
      simp only[bf,bn]at T
      obtain⟨⟨⟨⟨⟨rfl,cd⟩,bi⟩,eg⟩,ei⟩,dd⟩:=T
      have cd:=dE cd
      have bi:=dE bi
      subst cd
      refine⟨.ret (.str bs) (H.set l .dead),W,lY (by simp[E]) λc ρ w e C D=>?_⟩
      have ad:=C p
      have ag:=C n
      rw[hp]at ad
      rw[hn]at ag
      simp only[VR]at ad ag
      obtain⟨b,N,hb,ad⟩:=ad
      have J:=D.dF l
      rw[hb]at J
      obtain⟨b1,b2,b3⟩:=ai.vl J c6
      have dk:w.shape? b=z (t,N):=by
       cases hx:H.get l with
       |cells cs a=>
        rw[hx]at J K
        simp only[ai.acc]at K
        obtain⟨el,s1,_,s3⟩:=aJ.shape J
        rw[s3 _ K]at s1
        exact s1
       |rows q e2 f a=>
        rw[hx]at J K
        simp only[ai.acc]at K
        obtain⟨el,s1,_,s3⟩:=aJ.shape J.2
        rw[s3 _ K]at s1
        exact s1
       |str q a=>
        rw[hx]at J K
        simp only[ai.acc]at K
        obtain⟨el,s1,_,s3⟩:=aJ.shape J
        rw[s3 _ K]at s1
        exact s1
       |map=>rw[hx]at K;simp only[ai.acc]at K;split at K<;>cases K
       |loop|tE|iter|iy|dX|cT|dead=>rw[hx]at K;simp[ai.acc]at K
      obtain⟨i,i1,i2⟩:=hI.size _ _ cx
      have hc:P.cellsOf t=1:=by simp[Program.cellsOf,i1,i2]
      have cf:bs≠[]:=λe=>by rw[e]at b1;simp at b1;omega
      have hm:m=(bs.length:Int):=by rw[b1];omega
      have G:(Builtin.unsafeString_ #[pt,it] o.type #[.pointer (z ⟨b,0,d_⟩),.int g_ bs.length]).run P w= .ok (.string ⟨bs.toArray⟩) (w.freeze ⟨b,0,d_⟩ bs.length):=
       Lib.run_unsafeString_row w pt it o.type t (hI.dI _ _ hu) hc b N dk bs cf O O λj x hx=>by
        obtain⟨hj,dr⟩:=List.getElem?_eq_some_iff.1 hx
        have:=b3 j hj
        rw[addr_add,this,dr]
      refine⟨.string ⟨bs.toArray⟩,w.freeze ⟨b,0,d_⟩ bs.length,ρ,?_,Ext.refl _,?_,zB⟩
      ·rw[hm]at ag
       rw[bi]at ad
       simp only[execOp,E,resolve,Sem.run_bind,Sem.run_pure,Result.andThen_ok,invoke,builtin,V,e2,ad,ag,G]
      ·refine D.fC .dead dd hb (λk hk=>?_) ?_ ?_ ?_ ?_ trivial
       ·unfold World.freeze
        split
        ·rfl
        ·simp only[Array.getElem?_modify]
         rw[if_neg (λe=>hk e.symm)]
       all_goals(unfold World.freeze;split<;>simp)
     ·exact zR
    ·exact zR
   ·exact zR
  ·exact zR
 ·rename_i t x E
  split at h
  ·rename_i kt vt l ht hx
   split at h
   ·rename_i hl
    refine⟨.ret (.ptr H.n 0 0 0) (H.new (.iter l)),h,lY (by simp[E]) λc ρ w e C D=>?_⟩
    have y:=C x
    rw[hx]at y
    simp only[VR]at y
    obtain⟨m,d,hm,y⟩:=y
    have J:=D.dF l
    rw[hl,hm]at J
    obtain⟨b,N,ms,U,V,e2,Kf,_⟩:=J
    have e3:=(Kf.plain A).1
    cases V
    have bq:l≠H.n:=λe=>by rw[e,D.top _ (dw _)]at hm;cases hm
    obtain⟨b0,a7⟩:=D.new (.mapIter (z m) U #[] U) 0 (.iter l) λw' b4=>
     ⟨_,_,m,d,U,U,rfl,by rw[Env.ec _ _ bq];exact hm,dw _,b4⟩
    refine⟨_,_,_,?_,b0,a7,by simp only[VR];exact⟨w.heap.size,0,Env.cP _ _ _,rfl⟩⟩
    simp only[execOp,E,y,Sem.run_bind,Go.run_range_map w t kt vt m ms.toArray U (hI.dI _ _ ht) e2,Result.andThen_ok,Sem.run_pure]
    rfl
   ·rename_i n f hl
    refine⟨.ret (.ptr H.n 0 0 0) (H.new (.dX l n [])),h,lY (by simp[E]) λc ρ w e C D=>?_⟩
    have y:=C x
    rw[hx]at y
    simp only[VR]at y
    obtain⟨m,d,hm,y⟩:=y
    have J:=D.dF l
    rw[hl,hm]at J
    obtain⟨b,N,V,e2⟩:=J
    cases V
    have bq:l≠H.n:=λe=>by rw[e,D.top _ (dw _)]at hm;cases hm
    obtain⟨b0,a7⟩:=D.new (.mapIter (z m) n #[] n) 0 (.dX l n []) λw' b4=>
     ⟨_,_,m,d,rfl,by rw[Env.ec _ _ bq];exact hm,b4⟩
    refine⟨_,_,_,?_,b0,a7,by simp only[VR];exact⟨w.heap.size,0,Env.cP _ _ _,rfl⟩⟩
    simp only[execOp,E,y,Sem.run_bind,Go.run_range_map w t kt vt m _ n (hI.dI _ _ ht) e2,Result.andThen_ok,Sem.run_pure]
    rfl
   ·rename_i n f Q foc hl
    refine⟨.ret (.ptr H.n 0 0 0) (H.new (.dX l n [])),h,lY (by simp[E]) λc ρ w e C D=>?_⟩
    have y:=C x
    rw[hx]at y
    simp only[VR]at y
    obtain⟨m,d,hm,y⟩:=y
    have J:=D.dF l
    rw[hl,hm]at J
    obtain⟨b,N,u,V,e2,_⟩:=J
    cases V
    have bq:l≠H.n:=λe=>by rw[e,D.top _ (dw _)]at hm;cases hm
    obtain⟨b0,a7⟩:=D.new (.mapIter (z m) n #[] n) 0 (.dX l n []) λw' b4=>
     ⟨_,_,m,d,rfl,by rw[Env.ec _ _ bq];exact hm,b4⟩
    refine⟨_,_,_,?_,b0,a7,by simp only[VR];exact⟨w.heap.size,0,Env.cP _ _ _,rfl⟩⟩
    simp only[execOp,E,y,Sem.run_bind,Go.run_range_map w t kt vt m _ n (hI.dI _ _ ht) e2,Result.andThen_ok,Sem.run_pure]
    rfl
   ·exact zR
  ·exact zR
 ·rename_i it E
  split at h
  ·rename_i i b5
   split at h
   ·rename_i l hi
    split at h
    ·rename_i hl
     refine⟨.ret (.bK [.bool false]) H,h,lY (by simp[E]) λc ρ w e C D=>?_⟩
     have y:=C it
     rw[b5]at y
     simp only[VR]at y
     obtain⟨r,R',ap,y⟩:=y
     have Y:=D.dF i
     rw[hi,ap]at Y
     obtain⟨b,N,m,d,since,last,V,e2,e3,e4⟩:=Y
     cases V
     have Z:=D.dF l
     rw[hl,e2]at Z
     obtain⟨b2,N2,ms,U,f1,f2,dt,_⟩:=Z
     have f3:=(dt.plain A).1
     cases f1
     have dv:ms=[]:=by
      have:=f3.length_eq
      simp only[h_,n_,s_]at this
      exact l_ this.symm
     subst dv
     refine⟨_,w,ρ,?_,Ext.refl _,D,by simp only[VR];exact⟨[.bool false],rfl,aU.aL.2 ⟨zB,zH⟩⟩⟩
     rcases Go.run_next_at (P:=P) w o.type r m since last #[] #[] U e4 f2 zA e3 with⟨_,G⟩|⟨x,hx,_⟩
     ·simp only[A_,w_]at y
      simp only[execOp,E,y,Sem.run_bind,G,Result.andThen_ok,Sem.run_pure]
     ·simp[leftOf]at hx
    ·exact zR
   ·rename_i l n S hi
    split at h
    ·rename_i m f Q j a hl
     have pre:∀c ρ w (e:Operand->Value),(∀x,VR ρ (ev x) (e x))->Rel c ρ H w->∃r R' b d u,ρ i=z (r,R')/\e it= .pointer (z ⟨r,0,d_⟩)/\ρ l=z (b,d)/\w.heap[r]? =z (.mapIter (z b) n S.reverse.toArray n)/\w.heap[b]? =z (.map (bT m f u).toArray m)/\VR ρ a (u j):=by
      intro c ρ w e C D
      have y:=C it
      rw[b5]at y
      simp only[VR]at y
      obtain⟨r,R',ap,y⟩:=y
      have Y:=D.dF i
      rw[hi,ap]at Y
      obtain⟨b,N,m',d,V,e2,e3⟩:=Y
      cases V
      have Z:=D.dF l
      rw[hl,e2]at Z
      obtain⟨b2,N2,u,f1,f2,_,f4⟩:=Z
      cases f1
      exact⟨_,R',_,_,u,ap,by simpa using y,e2,e3,f2,(f4 j a A).2⟩
     split at h
     ·obtain⟨h0,T⟩:=hX.ak _ _ h
      simp only[bf]at h0
      cases dE h0.1.1
      cases dE h0.1.2
      cases dE h0.2
      refine⟨.ret (.bK [.bool true,.agg (dx (f 0)),a]) (H.set i (.dX l 1 [0])),T,lY (by simp[E]) λc ρ w e C D=>?_⟩
      obtain⟨r,R',b,d,u,p1,p2,p3,p4,p5,p6⟩:=pre c ρ w e C D
      have ea:r<w.heap.size:=(Array.getElem?_eq_some_iff.1 p4).1
      rcases Go.run_next_at (P:=P) w o.type r b 1 1 #[] (bT 1 f u).toArray 1 p4 p5 (λx hx=>by
       have hx:x∈bT 1 f u:=hx
       obtain⟨k,hk,rfl⟩:=List.mem_map.1 hx
       exact List.mem_range.1 hk) (dw _)with⟨h0,_⟩|⟨x,hx,w1,ed,G⟩
      ·exact absurd h0 (by simp[leftOf,bT])
      ·simp only[leftOf,B_,P_]at hx
       obtain⟨k,hk,rfl⟩:=List.mem_map.1 hx.1
       have hk:k=0:=by have:=List.mem_range.1 hk;omega
       subst hk
       have hw:w1.heap=w.heap/\w1.os=w.os/\w1.output=w.output/\w1.tape=w.tape:=by rcases ed with rfl|rfl<;>exact⟨rfl,rfl,rfl,rfl⟩
       refine⟨.tuple #[.bool true,iL (f 0),u 0],ChangeMaps.setBlock w1 r (.mapIter (z b) 1 (#[].push 0) 1),ρ,?_,Ext.refl _,?_,(show VR ρ (.bK [.bool true,.agg (dx (f 0)),a]) (.tuple #[.bool true,iL (f 0),u 0]) by
        simp only[VR]
        exact⟨[.bool true,iL (f 0),u 0],rfl,aU.aL.2 ⟨zB,aU.aL.2 ⟨PK _,aU.aL.2 ⟨p6,zH⟩⟩⟩⟩)⟩
       ·simp only[execOp,E,p2,Sem.run_bind,G,Result.andThen_ok,Sem.run_pure]
       ·refine D.fC _ (by rw[hi];rfl) p1 (λi cf=>?_) ?_ hw.2.1 hw.2.2.1 hw.2.2.2 ?_
        ·simp only[ChangeMaps.setBlock,hw.1]
         rw[M,if_neg (λe=>cf e.symm)]
        ·simp only[ChangeMaps.setBlock,hw.1]
         simp
        ·refine⟨r,_,b,d,rfl,p3,?_⟩
         simp only[ChangeMaps.setBlock,hw.1]
         rw[M,if_pos A,if_pos ea]
         simp
     ·rename_i x S'
      obtain⟨h0,T⟩:=hX.ak _ _ h
      simp only[bf]at h0
      cases dE h0.1.1
      cases dE h0.1.2
      cases dE h0.2
      refine⟨.ret (.bK [.bool false]) H,T,lY (by simp[E]) λc ρ w e C D=>?_⟩
      obtain⟨r,R',b,d,u,p1,p2,p3,p4,p5,p6⟩:=pre c ρ w e C D
      refine⟨_,w,ρ,?_,Ext.refl _,D,by simp only[VR];exact⟨[.bool false],rfl,aU.aL.2 ⟨zB,zH⟩⟩⟩
      rcases Go.run_next_at (P:=P) w o.type r b 1 1 (0::S').reverse.toArray (bT 1 f u).toArray 1 p4 p5 (λx hx=>by
       have hx:x∈bT 1 f u:=hx
       obtain⟨k,hk,rfl⟩:=List.mem_map.1 hx
       exact List.mem_range.1 hk) (dw _)with⟨_,G⟩|⟨x,hx,_⟩
      ·simp only[execOp,E,p2,Sem.run_bind,G,Result.andThen_ok,Sem.run_pure]
      ·simp only[leftOf,B_,P_]at hx
       obtain⟨k,hk,rfl⟩:=List.mem_map.1 hx.1
       have hk:k=0:=by have:=List.mem_range.1 hk;omega
       subst hk
       simp at hx
    ·exact zR
   ·exact zR
  ·exact zR
 ·rename_i it E
  split at h
  ·rename_i i b5
   split at h
   ·rename_i l n j S hi
    split at h
    ·rename_i m f hl
     obtain⟨h0,T⟩:=hX.ak _ _ h
     simp only[bf]at h0
     obtain⟨W,h3⟩:=h0
     have ee:=dE W
     subst ee
     have cg:j<n:=by simpa [k_,Q_]using h3
     refine⟨.ret (.bK [.int g_ (f j),.bool true]) H,T,lY (by simp[E]) λc ρ w e C D=>?_⟩
     have y:=C it
     rw[b5]at y
     simp only[VR]at y
     obtain⟨r,R',ap,y⟩:=y
     have Y:=D.dF i
     rw[hi,ap]at Y
     obtain⟨b,N,m,d,V,e2,e3⟩:=Y
     cases V
     have Z:=D.dF l
     rw[hl,e2]at Z
     obtain⟨b2,N2,f1,f2⟩:=Z
     cases f1
     have e4:w.heap[r]? =z (.mapIter (z m) n (S.reverse.toArray.push j) n):=by
      rw[e3];simp
     have G:=Go.run_entry_at (P:=P) w r m n S.reverse.toArray _ n {key:=.int g_ (f j),val:=.bool true,born:=j} e4 f2 (vB cg) (Si n f)
     refine⟨_,w,ρ,?_,Ext.refl _,D,by simp only[VR];exact⟨[.int g_ (f j),.bool true],rfl,aU.aL.2 ⟨zB,aU.aL.2 ⟨zB,zH⟩⟩⟩⟩
     simp only[A_,w_]at y
     simp only[execOp,E,y,Sem.run_bind,G,Result.andThen_ok,Sem.run_pure]
    ·rename_i m f Q x a hl
     obtain⟨h0,T⟩:=hX.ak _ _ h
     simp only[bf]at h0
     cases dE h0.1.1
     cases dE h0.2
     have cg:j<n:=by simpa [k_,Q_]using h0.1.2
     refine⟨.ret (.bK [.agg (dx (f j)),a]) H,T,lY (by simp[E]) λc ρ w e C D=>?_⟩
     have y:=C it
     rw[b5]at y
     simp only[VR]at y
     obtain⟨r,R',ap,y⟩:=y
     have Y:=D.dF i
     rw[hi,ap]at Y
     obtain⟨b,N,m,d,V,e2,e3⟩:=Y
     cases V
     have Z:=D.dF l
     rw[hl,e2]at Z
     obtain⟨b2,N2,u,f1,f2,_,f4⟩:=Z
     cases f1
     have e4:w.heap[r]? =z (.mapIter (z m) n (S.reverse.toArray.push j) n):=by
      rw[e3];simp
     have G:=Go.run_entry_at (P:=P) w r m n S.reverse.toArray _ n {key:=iL (f j),val:=u j,born:=j} e4 f2 (List.mem_map.2 ⟨j,List.mem_range.2 cg,rfl⟩) (by
      have:(bT n f u).toArray.toList.map (·.born)=f_ n:=by simp[bT,z_]
      rw[this];exact List.nodup_range)
     refine⟨_,w,ρ,?_,Ext.refl _,D,(show VR ρ (.bK [.agg (dx (f j)),a]) (.tuple #[iL (f j),u j]) by
      simp only[VR]
      exact⟨[iL (f j),u j],rfl,aU.aL.2 ⟨PK _,aU.aL.2 ⟨(f4 j a A).2,zH⟩⟩⟩)⟩
     simp only[A_,w_]at y
     simp only[execOp,E,y,Sem.run_bind,G,Result.andThen_ok,Sem.run_pure]
    ·exact zR
   ·exact zR
  ·exact zR
 ·exact Pr hX hI h
end
end
section
structure St where
 t:Tr AV
 nt:Nat
 H:AH
 df:List Nat
def Sj(v:Value):AV:=match dN v with|some a=>a|none=> .any
def St.ev(G:Nat)(s:St):Operand->AV
 | .tmp i=>cR s.t i
 | .const v=>Sj v
 | .global g=>bif k_ (Lk g) G&&a_ (ux (Lk g)) g then .ptr (Lk g) 0 0 0 else .any
 | .func f=> .fn f [] []
def St.put(s:St)(d:Option Tmp)(a:AV):St :=
 match d with
 |none=>s
 |some i=>match s with
  |⟨t,nt,H,df⟩=>bif k_ i nt then⟨t.set i a,nt,H,df⟩else⟨t,nt,H,df⟩
def St.heap(s:St)(H:AH):St:=match s with
 |⟨t,nt,_,df⟩=>⟨t,nt,H,df⟩
def Gh(ρ:Env):List Nat->List Deferred->Prop
 |[],ds=>ds=[]
 |l::a,ds=> ∃b N rest,ρ l=z (b,N)/\ds={target:=.collected b,args := #[]}::rest/\Gh ρ a rest
theorem Gh.ext{ρ ρ'}(h:Ext ρ ρ'):∀{a ds},Gh ρ a ds->Gh ρ' a ds
 |[],_,k=>k
 |_::_,_,⟨b,N,rest,h1,c,d⟩=>⟨b,N,rest,h _ _ h1,c,Gh.ext h d⟩
structure cA (c:fw) (ρ:Env) (s:St) (a:Act) (w:World):Prop where
 tmp:uw ρ s.t s.nt a.tmps
 heap:Rel c ρ s.H w
 df:Gh ρ s.df a.defers
theorem cA.ev{c ρ s a w}(h:cA c ρ s a w){G}(hG:c.G=G)(x):VR ρ (s.ev G x) (a.eval x):=by
 cases x with
 |tmp i=>exact h.tmp.2 i
 |const v=>
  simp only[St.ev,Sj,Act.eval]
  split
  ·rename_i a ha;exact jZ ρ v a ha
  ·simp only[VR]
 |global g=>
  simp only[St.ev,Act.eval]
  cases b:k_ (Lk g) G&&a_ (ux (Lk g)) g with
  |true=>
   rw[bf,t_,Nat.beq_eq]at b
   obtain⟨N,d⟩:=h.heap.fp (Lk g) O
   simp only[cond_true,VR]
   exact⟨g,N,by rw[b.2]at d;exact d,zA⟩
  |false=>simp only[cond_false,VR]
 |func f=>simp only[St.ev,Act.eval,VR];exact⟨[],[],rfl,zH,zH⟩
theorem oo(t)(i j)(a):cR (t.set i a) j=if j=i then a else cR t j:=by
 unfold cR
 rw[Tr.bH]
 grind
theorem uw.set{ρ t nt vs}(h:uw ρ t nt vs){i a v}(c:VR ρ a v)(hi:i<nt):uw ρ (t.set i a) nt (vs.setIfInBounds i v):=by
 refine⟨by simpa using h.1,λj=>?_⟩
 rw[oo]
 by_cases b:j=i
 ·subst b
  have:j<vs.size:=by rw[h.1];exact hi
  simpa [this]using c
 ·rw[if_neg b]
  have:(vs.setIfInBounds i v).getD j undef=vs.getD j undef:=by
   simp only[e_,M]
   rw[if_neg (λe=>b e.symm)]
  rw[this]
  exact h.2 j
theorem cA.put{c ρ ρ' s a w w'}(h:cA c ρ s a w)(hx:Ext ρ ρ'){H'}(b:Rel c ρ' H' w'){v u}(f:VR ρ' v u)(d):cA c ρ' ((s.heap H').put d v) (a.put d u) w':=by
 cases d with
 |none=>exact⟨h.tmp.ext hx,b,h.df.ext hx⟩
 |some i=>
  simp only[St.put,Act.put,St.heap]
  cases hi:k_ i s.nt with
  |true=>
   rw[t_]at hi
   exact⟨(h.tmp.ext hx).set f hi,b,h.df.ext hx⟩
  |false=>
   have j :¬ i<s.nt:=λe=>by rw[<-t_,hi]at e;cases e
   have:a.tmps.setIfInBounds i u=a.tmps:=by
    apply c_
    simp only[x_]
    exact y_ (by rw[C_,show a.tmps.size=s.nt from h.tmp.1];grind)
   rw[this]
   exact⟨h.tmp.ext hx,b,h.df.ext hx⟩
structure KS (R:Type) where
 n:St->R
 x:Nat->St->R
 g:Nat->St->R
 r:St->R
 p:AV->St->R
inductive aQ where
 |n (s:St)
 |x (i:Nat) (s:St)
 |g (l:Nat) (s:St)
 |r (s:St)
 |p (a:AV) (s:St)
def aQ.sem{R:Type}(sem:R->Prop)(k:KS R):aQ->Prop
 | .n s=>sem (k.n s)
 | .x i s=>sem (k.x i s)
 | .g l s=>sem (k.g l s)
 | .r s=>sem (k.r s)
 | .p a s=>sem (k.p a s)
def aQ.post(e:aQ)(c:fw)(ρ:Env)(x:Exit)(a:Act)(w:World):Prop :=
 match e,x with
 | .n s,.normal=> ∃ρ',Ext ρ ρ'/\cA c ρ' s a w
 | .x i s,.exit j=>i=j/\∃ρ',Ext ρ ρ'/\cA c ρ' s a w
 | .g l s,.goto m=>l=m/\∃ρ',Ext ρ ρ'/\cA c ρ' s a w
 | .r s,.ret=> ∃ρ',Ext ρ ρ'/\cA c ρ' s a w
 | .p v s,.panic b=> ∃ρ' u,b=[{v:=u,recovered:=false}]/\Ext ρ ρ'/\cA c ρ' s a w/\VR ρ' v u
 |_,_=>False
theorem aQ.gO{e:aQ}{c ρ ρ' x a w}(hx:Ext ρ ρ')(h:e.post c ρ' x a w):e.post c ρ x a w:=by
 cases e<;>cases x<;>simp only[aQ.post]at h⊢ <;>first
  |exact h
  |(obtain⟨b,d,f⟩:=h;exact⟨b,hx.trans d,f⟩)
  |(obtain⟨i,b,d,f⟩:=h;exact⟨i,b,hx.trans d,f⟩)
  |(obtain⟨b,u,i,d,f⟩:=h;exact⟨b,u,i,hx.trans d,f⟩)
section
variable {R:Type} {X:RI R} {sem:R->Prop} (hX:X.Ok sem) {I:ba} {P:Program} (hI:I.Ok P)
def l4(X:RI R)(I:ba)(c:iQ R)(round:gZ R)(ops:Array Oper)(k:KS R):List Oper->St->R
 |[],s=>k.n s
 |o::rest,s=>
  match o.guard with
  |none=>Pq X I c round o (s.ev I.G) s.H (λa H=>l4 X I c round ops k rest ((s.heap H).put o.dst a)) (λa H=>k.p a (s.heap H))
  |some (j,want)=>
   match(ops[j]?).bind (·.dst)with
   |none=>X.fail
   |some d=>
    match cR s.t d with
    | .bool b=>
     let run (s:St):=Pq X I c round o (s.ev I.G) s.H (λa H=>l4 X I c round ops k rest ((s.heap H).put o.dst a)) (λa H=>k.p a (s.heap H))
     let skip (s:St):=l4 X I c round ops k rest (s.put o.dst (.bK []))
     X.cond b (λ_=>(bif want then run else skip) (s.put (z d) (.bool true))) (λ_=>(bif want then skip else run) (s.put (z d) (.bool false)))
    | .bK []=>l4 X I c round ops k rest (s.put o.dst (.bK []))
    |_=>X.fail
theorem oq{ro n P ops Q i rest o a w}(b:ops[i]? =z o)
  (c:Region.wanted o (yielded ops a.tmps)=true) (h:o.wpIn (WF ro) n P a w (wpOpsIn (WF ro) n P ops Q rest) Q):wpOpsIn (WF ro) n P ops Q (i::rest) a w:=by
 simp only[wpOpsIn,b,c,if_true];exact h
theorem Sk{ro n P ops Q i rest o a w}(b:ops[i]? =z o)
  (c:Region.wanted o (yielded ops a.tmps)=false) (h:wpOpsIn (WF ro) n P ops Q rest (a.put o.dst undef) w):wpOpsIn (WF ro) n P ops Q (i::rest) a w:=by
 simp only[wpOpsIn,b,c,kH,if_false];exact⟨λ_ _=>trivial,h⟩
theorem cA.lit{c ρ s a w}(h:cA c ρ s a w){d b}(i:cR s.t d= .bool b):cA c ρ (s.put (z d) (.bool b)) a w:=by
 simp only[St.put]
 cases hi:k_ d s.nt with
 |true=>
  refine⟨⟨h.tmp.1,λj=>?_⟩,h.heap,h.df⟩
  simp only[cond_true]
  rw[oo]
  by_cases f:j=d
  ·subst f;rw[if_pos A,<-i];exact h.tmp.2 j
  ·rw[if_neg f];exact h.tmp.2 j
 |false=>exact h
theorem vD{ρ}:VR ρ (.bK []) undef:=by simp only[VR];exact⟨[],rfl,zH⟩
theorem ph{o}{ops:Array Oper}{tmps}{j d:Nat}{a b}(e:o.guard=z (j,a))(f:(ops[j]?).bind (·.dst)=z d)(c:tmps.getD d undef= .bool b):
  Region.wanted o (yielded ops tmps)=(b==a):=by
 simp only[Region.wanted,e,yielded,f,F_]
 have:tmps[d]? =z (.bool b):=by
  rw[e_]at c
  cases ht:tmps[d]? with
  |none=>rw[ht]at c;simp[undef]at c
  |some x=>grind
 grind
theorem nA{o}{ops:Array Oper}{tmps}{j d:Nat}{a}(c:o.guard=z (j,a))(e:(ops[j]?).bind (·.dst)=z d)(b:tmps.getD d undef=undef):
  Region.wanted o (yielded ops tmps)=false:=by
 simp only[Region.wanted,c,yielded,e,F_]
 rw[e_]at b
 cases ht:tmps[d]? with
 |none=>rfl
 |some x=>
  rw[ht]at b
  simp at b
  subst b
  rfl
include hX hI in
theorem vR{f:iQ R}(t:gN P I sem f){round:gZ R}(m:hZ P I sem round){ops:Array Oper}{k:KS R}:∀(l:List Oper)(i:Nat)(s:St),ops.toList.drop i=l->sem (l4 X I f round ops k l s)->
  ∃e:aQ,e.sem sem k/\∀ro n c ρ a w (Q:Exit->Act->World->Prop),c.G=I.G->cA c ρ s a w->(∀x a' w',e.post c ρ x a' w'->Q x a' w')->wpOpsIn (WF ro) n P ops Q (u_ i l.length) a w
 |[],i,s,_,h=>⟨.n s,h,λro n c ρ a w Q hG g hQ=>by
   simp only[n_,List.range'_zero,wpOpsIn]
   exact hQ .normal a w ⟨ρ,Ext.refl ρ,g⟩⟩
 |o::rest,i,s,hl,h=>by
  have S:ops[i]? =z o:=by
   have:(ops.toList.drop i)[0]? =z o:=by rw[hl];rfl
   rw[List.getElem?_drop]at this
   simpa using this
  have D:ops.toList.drop (i+1)=rest:=by
   rw[<-List.drop_drop,hl];rfl
  have E:u_ i (o::rest).length=i::u_ (i+1) rest.length:=by simp[List.range'_succ]
  have run:∀s:St,sem (Pq X I f round o (s.ev I.G) s.H (λa H=>l4 X I f round ops k rest ((s.heap H).put o.dst a)) (λa H=>k.p a (s.heap H)))->
    ∃e:aQ,e.sem sem k/\∀ro n c ρ a w (Q:Exit->Act->World->Prop),c.G=I.G->cA c ρ s a w->Region.wanted o (yielded ops a.tmps)=true->(∀x a' w',e.post c ρ x a' w'->Q x a' w')->wpOpsIn (WF ro) n P ops Q (i::u_ (i+1) rest.length) a w:=by
   intro s h
   obtain⟨out,y,C⟩:=D3 hX hI t m h
   cases out with
   |ret v H'=>
    obtain⟨e,T,U⟩:=vR t m rest (i+1) _ D y
    refine⟨e,T,λro n c ρ a w Q hG g K hQ=>oq S K (C ro n c ρ w a _ Q hG (g.ev hG) g.heap (λV H2 u w' ρ' F hx J W=>?_) λV H2 u w' ρ' F=>by cases F)⟩
    cases F
    exact U ro n c ρ' _ w' Q hG (g.put hx J W o.dst) λx a' w' hp=>hQ x a' w' (aQ.gO hx hp)
   |qt v H'=>
    refine⟨.p v (s.heap H'),y,λro n c ρ a w Q hG g K hQ=>oq S K (C ro n c ρ w a _ Q hG (g.ev hG) g.heap (λV H2 u w' ρ' F=>by cases F) λV H2 u w' ρ' F hx J W=>?_)⟩
    cases F
    exact hQ _ _ _ ⟨ρ',u,rfl,hx,⟨g.tmp.ext hx,J,g.df.ext hx⟩,W⟩
  have skip:∀s:St,sem (l4 X I f round ops k rest (s.put o.dst (.bK [])))->
    ∃e:aQ,e.sem sem k/\∀ro n c ρ a w (Q:Exit->Act->World->Prop),c.G=I.G->cA c ρ s a w->Region.wanted o (yielded ops a.tmps)=false->(∀x a' w',e.post c ρ x a' w'->Q x a' w')->wpOpsIn (WF ro) n P ops Q (i::u_ (i+1) rest.length) a w:=by
   intro s h
   obtain⟨e,T,U⟩:=vR t m rest (i+1) _ D h
   refine⟨e,T,λro n c ρ a w Q hG g K hQ=>Sk S K ?_⟩
   exact U ro n c ρ _ w Q hG (g.put (Ext.refl ρ) g.heap vD o.dst) hQ
  rw[E]
  simp only[l4]at h
  split at h
  ·rename_i N
   obtain⟨e,y,C⟩:=run s h
   exact⟨e,y,λro n c ρ a w Q hG g hQ=>C ro n c ρ a w Q hG g (by simp[Region.wanted,N]) hQ⟩
  ·rename_i j r N
   split at h
   ·exact zR
   ·rename_i d Y
    split at h
    ·rename_i b O
     have hc:=hX.cond _ _ _ h
     have q:∀c ρ a w,cA c ρ s a w->Region.wanted o (yielded ops a.tmps)=(b==r):=λc ρ a w g=>ph N Y (by
      have:=g.tmp.2 d
      rw[O]at this
      simpa only[VR]using this)
     have lit:∀c ρ a w,cA c ρ s a w->cA c ρ (s.put (z d) (.bool b)) a w:=λc ρ a w g=>g.lit O
     have L:(if b=true then(bif r then sem (Pq X I f round o ((s.put (z d) (.bool true)).ev I.G) (s.put (z d) (.bool true)).H (λa H=>l4 X I f round ops k rest (((s.put (z d) (.bool true)).heap H).put o.dst a)) (λa H=>k.p a ((s.put (z d) (.bool true)).heap H)))else sem (l4 X I f round ops k rest ((s.put (z d) (.bool true)).put o.dst (.bK []))))
       else(bif r then sem (l4 X I f round ops k rest ((s.put (z d) (.bool false)).put o.dst (.bK [])))else sem (Pq X I f round o ((s.put (z d) (.bool false)).ev I.G) (s.put (z d) (.bool false)).H (λa H=>l4 X I f round ops k rest (((s.put (z d) (.bool false)).heap H).put o.dst a)) (λa H=>k.p a ((s.put (z d) (.bool false)).heap H))))):=by
      cases r<;>exact hc
     cases b<;>cases r<;>simp only[if_true,kH,if_false,cond_true,cond_false]at L
     ·obtain⟨e,y,C⟩:=run _ L
      exact⟨e,y,λro n c ρ a w Q hG g hQ=>C ro n c ρ a w Q hG (lit c ρ a w g) (by rw[q c ρ a w g];rfl) hQ⟩
     ·obtain⟨e,y,C⟩:=skip _ L
      exact⟨e,y,λro n c ρ a w Q hG g hQ=>C ro n c ρ a w Q hG (lit c ρ a w g) (by rw[q c ρ a w g];rfl) hQ⟩
     ·obtain⟨e,y,C⟩:=skip _ L
      exact⟨e,y,λro n c ρ a w Q hG g hQ=>C ro n c ρ a w Q hG (lit c ρ a w g) (by rw[q c ρ a w g];rfl) hQ⟩
     ·obtain⟨e,y,C⟩:=run _ L
      exact⟨e,y,λro n c ρ a w Q hG g hQ=>C ro n c ρ a w Q hG (lit c ρ a w g) (by rw[q c ρ a w g];rfl) hQ⟩
    ·rename_i O
     obtain⟨e,y,C⟩:=skip s h
     refine⟨e,y,λro n c ρ a w Q hG g hQ=>C ro n c ρ a w Q hG g (nA N Y ?_) hQ⟩
     have:=g.tmp.2 d
     rw[O]at this
     simp only[VR]at this
     obtain⟨vs,h5,Z⟩:=this
     simp only[aU]at Z
     subst Z
     exact h5
    ·exact zR
include hX hI in
theorem BB{d:iQ R}(f:gN P I sem d){round:gZ R}(b:hZ P I sem round){ops:Array Oper}{k:KS R}{s:St}(h:sem (l4 X I d round ops k ops.toList s))(id:Nat):
  ∃e:aQ,e.sem sem k/\∀ro n c ρ a w,c.G=I.G->cA c ρ s a w->(Code.region id ops false).wpIn (WF ro) n P (e.post c ρ) a w:=by
 obtain⟨e,g,i⟩:=vR hX hI f b ops.toList 0 s rfl h
 refine⟨e,g,λro n c ρ a w hG j=>wpIn_region ?_⟩
 have:=i ro n c ρ a w (e.post c ρ) hG j λ_ _ _ h=>h
 rw[List.range_eq_range']
 simpa using this
end
end
section
inductive Task where
 |code (c:Code)
 |inLoop (c:Code)
 |inScope (r c:Code)
def Task.items:Task->List Item
 | .code c=>[.code c]
 | .inLoop c=>[.inLoop c]
 | .inScope r c=>[.code r,.inScope c]
def fG(F:Fence)(n:Nat)(P:Program)(t:Task)(Q:Exit->Act->World->Prop)(a:Act)(w:World):Prop :=
 ∀(b:Frame)(k:List Item)(cs:List Frame),b.roundOf=F.round->F.fn b.fn->F.room (cs.length+1+n)->
  ∃e a' w',Q e a' w'/\ArrivesIn (Machine.fenced P F) P (lone (b.atR a (t.items++k)) cs w) b k cs e a' w'
theorem fG.KI{F n P c Q a w}:fG F n P (.code c) Q a w↔c.wpIn F n P Q a w:=Iff.rfl
abbrev kf(R:Type):=Bool->Task->St->KS R->R
abbrev Spec(R:Type):=List AV->AH->(AV->AH->R)->(AV->AH->R)->R
def ew(P:Program)(I:ba)(ir:Bool)(t:Task)(s:St)(e:aQ):Prop :=
 ∀ro n c ρ a w,(ir=false->ro=d_)->c.G=I.G->cA c ρ s a w->fG (WF ro) n P t (e.post c ρ) a w
def vE{R:Type}(P:Program)(I:ba)(sem:R->Prop)(rec:kf R):Prop :=
 ∀ir t s k,sem (rec ir t s k)->∃e:aQ,e.sem sem k/\ew P I ir t s e
abbrev gy(R:Type):=Bool->Task->St->Option (KS R->R)
def eR{R:Type}(P:Program)(I:ba)(sem:R->Prop)(a:gy R):Prop :=
 ∀ir t s g,a ir t s=z g->∀k,sem (g k)->∃e:aQ,e.sem sem k/\ew P I ir t s e
def rl{R:Type}(P:Program)(I:ba)(sem:R->Prop)(b:FuncId->Option (Spec R)):Prop :=
 ∀f s,b f=z s->∀args H a kp,sem (s args H a kp)->∃o:CO,o.sem sem a kp/\af P I f args H o
abbrev ot(R:Type):=iQ R->gZ R->Array Oper->KS R->St->R
def ou{R:Type}(P:Program)(I:ba)(sem:R->Prop)(d:ot R):Prop :=
 ∀b round,gN P I sem b->hZ P I sem round->∀ops k s,sem (d b round ops k s)->∃e:aQ,e.sem sem k/\∀ro n c ρ a w id,c.G=I.G->cA c ρ s a w->(Code.region id ops true).wpIn (WF ro) n P (e.post c ρ) a w
section
variable {R:Type} (X:RI R) (I:ba)
def vG:List Nat->AH->(AH->R)->R
 |[],H,K=>K H
 |l::a,H,K=>match H.get l with
  | .tE=>vG a (H.set l .dead) K
  |_=>X.fail
def KJ(s:St)(H:AH):List ResultVar->(List AV->R)->R
 |[],K=>K []
 | .tmp t::rs,K=>KJ s H rs (λvs=>K (cR s.t t::vs))
 | .cell a t::rs,K=>yf X I t H (cR s.t a) (λv=>KJ s H rs (λvs=>K (v::vs)))
def oneOf:List AV->AV
 |[v]=>v
 |vs=> .bK vs
def leave(rs:List ResultVar)(s:St)(a:AV->AH->R):R :=
 vG X s.df s.H λH=>KJ X I s H rs λvs=>a (oneOf vs) H
def vH:Tr AV->Nat->List AV->Tr AV
 |t,_,[]=>t
 |t,i,a::as=>vH (t.set i a) (i+1) as
def St.start(args:List AV)(n:Nat)(H:AH):St:={t:=vH .e 0 args,nt:=args.length+(n-args.length),H,df:=[]}
def nB(d:FuncId->Option (Spec R))(rec:kf R):iQ R:=λf args H b kp=>
 match d f with
 |some s=>s args H b kp
 |none=>match I.body f with
  |some (c,n,rs)=>rec false (.code c) (.start args n H)
    {n:=λs=>leave X I rs s b,r:=λs=>leave X I rs s b,x:=λ_ _=>X.fail,g:=λ_ _=>X.fail,p:=λa s=>vG X s.df s.H (kp a)}
  |none=>X.fail
def pj(nt:Nat)(t:Tr AV)(a:List (Nat×AV)):Tr AV:=a.foldl (λt p=>bif k_ p.1 nt then t.set p.1 p.2 else t) t
def HW(l:Nat)(a:Option Code)(b:AV->AH->R)(s:St):R :=
 match s.H.get l with
 | .loop _ _ t nt c as d df=>b (.bool a.isNone) (s.H.set l (.loop (if a.isNone then .ready else .done) a t nt c as d df))
 |_=>X.fail
def roundOf(rec:kf R):gZ R:=λl args H a=>
 match H.get l with
 | .loop _ _ t nt b as e _=>
  if b.length=args.length then
   rec true (.code as) {t:=pj nt t (b.zip args),nt,H,df:=[]}
    {n:=λc=>match c.H.get l with
      | .loop .ready f t nt b as d df=>rec true (.code e) (c.heap (c.H.set l (.loop .busy f t nt b as d df)))
        {n:=HW X l d_ a,r:=HW X l (z .ret) a,x:=λi=>HW X l (z (.exit i)) a,g:=λi=>HW X l (z (.goto i)) a,p:=λ_ _=>X.fail}
      |_=>X.fail
     x:=λ_ _=>X.fail,g:=λ_ _=>X.fail,r:=λ_=>X.fail,p:=λ_ _=>X.fail}
  else X.fail
 |_=>X.fail
def mA(k:KS R)(s:St):Option Code->R
 |none=>k.n s
 |some .ret=>k.r s
 |some (.exit i)=>k.x i s
 |some (.goto i)=>k.g i s
 |_=>X.fail
def Sl(e:FuncId->Option (Spec R))(j:gy R)(o:ot R)(rec:kf R):kf R:=λir t s k=>
 match t with
 | .inLoop c=>rec ir (.code c) s {k with n:=λa=>rec ir (.inLoop c) a k}
 | .inScope r c=>rec ir (.code r) s {k with g:=λl a=>match findLabel c l with
   |some m=>match j ir (.inScope m c) a with
    |some g=>g k
    |none=>rec ir (.inScope m c) a k
   |none=>k.g l a}
 | .code c=>match c with
  | .skip=>k.n s
  | .region _ ops false=>l4 X I (nB X I e rec) (roundOf X rec) ops k ops.toList s
  | .region _ ops true=>o (nB X I e rec) (roundOf X rec) ops k s
  | .seq x y=>rec ir (.code x) s {k with n:=λa=>rec ir (.code y) a k}
  | .cond c x y=>match s.ev I.G c with
   | .bool b=>X.cond b (λ_=>rec ir (.code x) s k) (λ_=>rec ir (.code y) s k)
   |_=>X.fail
  | .block id c=>rec ir (.code c) s {k with x:=λi a=>bif a_ i id then k.n a else k.x i a}
  | .loop c=>match j ir (.code (.loop c)) s with
   |some g=>g k
   |none=>rec ir (.code c) s {k with n:=λa=>rec ir (.inLoop c) a k}
  | .rangeFunc f q as u=>match ir,s.ev I.G f with
   |false,.fn g first d=>match(I.body g).isSome with
    |true=>
     nB X I e rec g (first++ .yield (s.H.n+1)::d) ((s.H.new .tE).new (.loop .ready d_ s.t s.nt q.toList as u s.H.n))
      (λ_ H=>match H.get (s.H.n+1)with
       | .loop .ready h _ _ _ _ _ _=>mA X k {s with H:=H.set (s.H.n+1) .dead,df:=s.H.n::s.df} h
       | .loop .done h _ _ _ _ _ _=>mA X k {s with H:=H.set (s.H.n+1) .dead,df:=s.H.n::s.df} h
       |_=>X.fail)
      (λv H=>k.p v {s with H:=H,df:=s.H.n::s.df})
    |false=>X.fail
   |_,_=>X.fail
  | .exit id=>k.x id s
  | .scope c=>rec ir (.inScope c c) s k
  | .label _=>k.n s
  | .goto l=>k.g l s
  | .ret=>k.r s
  | .refuse _=>X.fail
def run(a:FuncId->Option (Spec R))(b:gy R)(c:ot R)(fuel:Nat):kf R :=
 Nat.rec (motive:=λ_=>kf R) (λ_ _ _ _=>X.fail) (λ_ rec=>Sl X I a b c rec) fuel
end
section
variable {R:Type} {X:RI R} {sem:R->Prop} (hX:X.Ok sem) {I:ba} {P:Program} (hI:I.Ok P)
include hX in
theorem yd(P:Program):∀{g:List Nat}{H:AH}{K:AH->R},sem (vG X g H K)->
  ∃H',sem (K H')/\∀(F:Fence)(n:Nat)(fn:Func)(tmps:Array Value)(d:Ending->World->Prop)(u:FrameMode),u≠ .run->∀c ρ w ds,Rel c ρ H w->Gh ρ g ds->(∀w',Rel c ρ H' w'->LeavesIn F n P fn tmps d [] u w')->LeavesInM F n P fn tmps d ds u w
 |[],H,K,h=>⟨H,h,λF n fn tmps d u i c ρ w ds e f hQ=>by
   simp only[Gh]at f;subst f
   exact hQ w e⟩
 |l::g,H,K,h=>by
  simp only[vG]at h
  split at h
  ·rename_i hl
   obtain⟨H',o,p⟩:=yd P h
   refine⟨H',o,λF n fn tmps d u i c ρ w ds e f hQ=>?_⟩
   obtain⟨b,N,rest,j,rfl,q⟩:=f
   have a:=e.dF l
   rw[hl,j]at a
   obtain⟨v,x,r,m⟩:=a
   cases r
   have s:b<w.heap.size:=(Array.getElem?_eq_some_iff.1 m).1
   refine⟨i,.inl ⟨b,_,rfl,run_takeDeferred m,p F n fn tmps d u i c ρ _ rest ?_ q hQ⟩⟩
   exact e.fC .dead (by rw[hl];rfl) j (λk t=>World.putObj_heap_other t) World.putObj_size A A A trivial
  ·exact zR
theorem D4{P v}(h:∃a,v= .pointer (z a))(t)(w):(do loadVar t (<-asAddr v):Sem Value).run P w=(Instr.loadAt t v).run P w:=by
 obtain⟨a,rfl⟩:=h
 rfl
theorem pY{P}{α b:Type}(f:α->Sem b)(x)(xs)(w):(V_ f (x::xs)).run P w=((f x).run P w).andThen λy w'=>((V_ f xs).run P w').andThen λc a=> .ok (y::c) a:=by
 simp[List.mapM_cons]
include hX hI in
theorem z6{s:St}{H:AH}:∀{rs:List ResultVar}{K:List AV->R},sem (KJ X I s H rs K)->
  ∃vs,sem (K vs)/\∀c ρ w tmps,uw ρ s.t s.nt tmps->Rel c ρ H w->∃us,(rs.mapM (λx:ResultVar=>(match x with
   | .tmp t=>pure (tmps.getD t undef)
   | .cell a t=>do loadVar t (<-asAddr (tmps.getD a undef)):Sem Value))).run P w= .ok us w/\aU ρ vs us
 |[],K,h=>⟨[],h,λc ρ w tmps ht d=>⟨[],zA,zH⟩⟩
 | .tmp t::rs,K,h=>by
  obtain⟨vs,f,g⟩:=z6 (rs:=rs) h
  refine⟨_,f,λc ρ w tmps ht d=>?_⟩
  obtain⟨us,i,l⟩:=g c ρ w tmps ht d
  refine⟨tmps.getD t undef::us,?_,aU.aL.2 ⟨ht.2 t,l⟩⟩
  rw[pY]
  simp only[Sem.run_pure,Result.andThen_ok,i]
 | .cell a t::rs,K,h=>by
  simp only[KJ]at h
  have m:∃q,Pf H (cR s.t a)=z q:=by
   unfold yf at h
   split at h
   ·exact⟨_,zI⟩
   ·exact zR
  obtain⟨⟨dF,k,e,j⟩,m⟩:=m
  obtain⟨v,f,g⟩:=vf hX hI h
  obtain⟨vs,i,l⟩:=z6 (rs:=rs) f
  refine⟨_,i,λc ρ w tmps ht d=>?_⟩
  obtain⟨us,n,o⟩:=l c ρ w tmps ht d
  obtain⟨u,p,r⟩:=g c ρ w _ (ht.2 a) d
  obtain⟨b,q,y,_⟩:=Ll m (ht.2 a) d
  refine⟨u::us,?_,aU.aL.2 ⟨r,o⟩⟩
  rw[pY]
  simp only[D4 ⟨_,y⟩,p,Result.andThen_ok,n]
theorem KL{ρ vs us}(h:aU ρ vs us):VR ρ (oneOf vs) (if h:us.toArray.size=1 then us.toArray[0]else .tuple us.toArray):=by
 have hl:=h.length_eq
 unfold oneOf
 split
 ·rename_i v
  simp only[aU]at h
  grind
 ·rename_i a
  have :¬ us.toArray.size=1:=by
   simp only[List.size_toArray]
   intro e
   rw[e]at hl
   match vs,hl with
   |[v],_=>exact a v A
  rw[dif_neg this]
  simp only[VR]
  grind
include hX hI in
theorem BC{rs:List ResultVar}{s:St}{g:AV->AH->R}(h:sem (leave X I rs s g)):∃v H',sem (g v H')/\∀c ρ a w (fn:Func) (F:Fence) (n:Nat) (d:Ending->World->Prop),cA c ρ s a w->fn.results.toList=rs->
  (∀u w',Rel c ρ H' w'->VR ρ v u->d (.returned u) w')->LeavesInM F n P fn a.tmps d a.defers .returning w:=by
 unfold leave at h
 obtain⟨H',i,j⟩:=yd hX P h
 obtain⟨vs,k,l⟩:=z6 hX hI i
 refine⟨_,H',k,λc ρ a w fn F n d e f hQ=>?_⟩
 refine j F n fn a.tmps d .returning zA c ρ w a.defers e.heap e.df λw' b=>?_
 obtain⟨us,m,o⟩:=l c ρ w' a.tmps e.tmp b
 refine⟨_,?_,hQ _ w' b (KL o)⟩
 have p:fn.results=rs.toArray:=by apply c_;simpa using f
 unfold results
 rw[p]
 simp only[List.mapM_toArray,Sem.run_bind]
 have q:(Functor.map List.toArray (rs.mapM (λx:ResultVar=>(match x with
   | .tmp t=>pure (a.tmps.getD t undef)
   | .cell a1 t=>do loadVar t (<-asAddr (a.tmps.getD a1 undef)):Sem Value)))).run P w'= .ok us.toArray w':=by
  rw[map_eq_pure_bind]
  simp only[Sem.run_bind,Sem.run_pure]
  rw[m]
  rfl
 erw [q]
 simp only[Result.andThen_ok,Sem.run_pure]
theorem tK:∀(as)(t)(i j),cR (vH t i as) j=if i<=j/\j<i+as.length then as.getD (j-i) .any else cR t j
 |[],t,i,j=>by
  simp only[vH,n_,Nat.add_zero]
  grind
 |a::as,t,i,j=>by
  simp only[vH]
  rw[tK as _ (i+1) j,oo]
  grind
theorem KM{c ρ H w args vs}(b:aU ρ args vs)(e:Rel c ρ H w)(n):
  cA c ρ (.start args n H) {tmps:=vs.toArray++K_ (n-vs.toArray.size) undef,defers:=[]} w:=by
 have hl:=b.length_eq
 refine⟨⟨by simp[St.start,hl],λj=>?_⟩,e,rfl⟩
 simp only[St.start]
 rw[tK]
 simp only[Nat.zero_le,true_and,w_,Nat.sub_zero]
 by_cases d:j<args.length
 ·rw[if_pos d]
  obtain⟨v,f,g⟩:=b.get j (a:=args.getD j .any) Y
  have:(vs.toArray++K_ (n-vs.toArray.size) undef).getD j undef=v:=by
   rw[e_,Array.getElem?_append_left zJ]
   simp[f]
  rw[this];exact g
 ·rw[if_neg d]
  simp only[cR,Tr.qV,VR]
include hX hI in
theorem pk{N:FuncId->Option (Spec R)}(K:rl P I sem N){rec:kf R}(y:vE P I sem rec):gN P I sem (nB X I N rec):=by
 intro f args H O kp h
 unfold nB at h
 split at h
 ·rename_i s Q
  exact K f s Q args H O kp h
 ·split at h
  ·rename_i c n rs S
   obtain⟨fn,T,m,hn,C,q⟩:=hI.body f c n rs S
   obtain⟨e,D,U⟩:=y _ _ _ _ h
   have enter:=q
   have body:∀(o:CO),(∀b ρ a w x,e.post b ρ x a w->bodyPostM (WF d_) 0 P fn (o.post b ρ) x a w)->af P I f args H o:=by
    intro o V b ρ w vs hG t j
    refine .inl ⟨enter _ _,?_⟩
    have E:CallsIn (WF d_) 0 P f vs.toArray w (o.post b ρ):=?_
    ·exact callsIn_wide.1 E
    have L:=KM t j n
    have:=U d_ 0 b ρ _ w (λ_=>rfl) hG L
    rw[fG.KI]at this
    exact callsIn_of_wp_marks (F:=WF d_) T m trivial (wpIn_mono (by rw[hn];exact this) λx a w=>V b ρ a w x)
   cases e with
   |n s=>
    obtain⟨v,H',G,J⟩:=BC hX hI (P:=P) D
    refine⟨.ret v H',G,body _ λb ρ a w x k=>?_⟩
    cases x with
    |normal=>
     obtain⟨ρ',hx,j⟩:=k
     exact J b ρ' a w fn _ _ _ j C λu w' d t=>⟨ρ',hx,d,t⟩
    |_=>exact k.elim
   |r s=>
    obtain⟨v,H',G,J⟩:=BC hX hI (P:=P) D
    refine⟨.ret v H',G,body _ λb ρ a w x k=>?_⟩
    cases x with
    |ret=>
     obtain⟨ρ',hx,j⟩:=k
     exact J b ρ' a w fn _ _ _ j C λu w' d t=>⟨ρ',hx,d,t⟩
    |_=>exact k.elim
   |x i s=>exact absurd D hX.fail
   |g l s=>exact absurd D hX.fail
   |p v s=>
    obtain⟨H',G,J⟩:=yd hX P D
    refine⟨.qt v H',G,body _ λb ρ a w x k=>?_⟩
    cases x with
    |panic W=>
     obtain⟨ρ',u,rfl,hx,j,t⟩:=k
     exact J _ _ fn a.tmps _ (.panicking _) zA b ρ' w a.defers j.heap j.df λw' d=>⟨ρ',u,rfl,hx,d,t⟩
    |_=>exact k.elim
  ·exact zR
theorem fG.mono{F n P t Q d a w}(h:fG F n P t Q a w)(j:∀e a w,Q e a w->d e a w):fG F n P t d a w :=
 λb k cs c f i=>let⟨e,a',w',q,r⟩:=h b k cs c f i;Y
theorem mB{F n P c Q a w}(t)(ht:t= .inLoop c∨t= .code (.loop c))
  (h:c.wpIn F n P (Exit.then (fG F n P (.inLoop c) Q) Q) a w):fG F n P t Q a w:=by
 intro b k cs o u v
 have g:(lone (b.atR a (t.items++k)) cs w).fenced P F/\step P (lone (b.atR a (t.items++k)) cs w)= .next (lone (b.atR a (.code c::.inLoop c::k)) cs w):=by
  rcases ht with rfl|rfl
  ·exact⟨fenced_calm u v A,stepR_inLoop⟩
  ·exact⟨fenced_calm u v A,stepR_loop⟩
 obtain⟨e,d,f,m,p⟩:=h b (.inLoop c::k) cs o u v
 cases e with
 |normal=>
  obtain⟨q,r,s,j,i⟩:=m b k cs o u v
  exact⟨q,r,s,j,.of_steps (.head g.1 g.2 p) i⟩
 |exit id=>exact⟨_,d,f,m,.of_steps (.one g.1 g.2) zI⟩
 |goto l=>exact⟨_,d,f,m,.of_steps (.one g.1 g.2) zI⟩
 |ret=>exact⟨_,d,f,m,.of_steps (.one g.1 g.2) zI⟩
 |panic x=>exact⟨_,d,f,m,.of_steps (.one g.1 g.2) zI⟩
 |outgrown=>exact⟨_,d,f,m,.of_steps (.one g.1 g.2) zI⟩
def mC(F:Fence)(n:Nat)(P:Program)(c:Code)(Q:Exit->Act->World->Prop):Exit->Act->World->Prop
 | .goto l,a,w=>match findLabel c l with
  |some r=>fG F n P (.inScope r c) Q a w
  |none=>Q (.goto l) a w
 |e,a,w=>Q e a w
theorem iR{F:Fence}{n:Nat}{P:Program}{c r:Code}{Q:Exit->Act->World->Prop}{a:Act}{w:World}(h:r.wpIn F n P (mC F n P c Q) a w):fG F n P (.inScope r c) Q a w:=by
 intro b k cs q C m
 obtain⟨e,f,g,j,d⟩:=h b (.inScope c::k) cs q C m
 have s:∀id,exitTo id (.inScope c::k)=exitTo id k:=λid=>by simp[exitTo]
 cases e with
 |normal=>
  have E:step P (lone (b.atR f (.inScope c::k)) cs g)= .next (lone (b.atR f k) cs g):=by rfl
  exact⟨.normal,f,g,j,StepsIn.trans d (.one (fenced_calm C m A) E)⟩
 |exit id=>exact⟨_,f,g,j,λD o=>d.1 D (by rw[s];exact o),λm o=>d.2 m (by rw[s];exact o)⟩
 |goto l=>
  simp only[mC]at j
  cases x:findLabel c l with
  |some G=>
   rw[x]at j
   have y:gotoIn l (.inScope c::k)=z (.code G::.inScope c::k):=by simp[gotoIn,x]
   obtain⟨t,u,v,p,i⟩:=j b k cs q C m
   exact⟨t,u,v,p,.of_steps (d.1 _ y) i⟩
  |none=>
   rw[x]at j
   have y:gotoIn l (.inScope c::k)=gotoIn l k:=by simp[gotoIn,x]
   exact⟨_,f,g,j,λD o=>d.1 D (by rw[y];exact o),λm o=>d.2 m (by rw[y];exact o)⟩
 |ret=>exact⟨_,f,g,j,d⟩
 |panic H=>exact⟨_,f,g,j,d⟩
 |outgrown=>exact⟨_,f,g,j,d⟩
theorem KN{F n P c Q a w}(h:fG F n P (.inScope c c) Q a w):fG F n P (.code (.scope c)) Q a w:=by
 intro b k cs i j l
 obtain⟨e,d,f,m,g⟩:=h b k cs i j l
 have o:step P (lone (b.atR a (.code (.scope c)::k)) cs w)= .next (lone (b.atR a (.code c::.inScope c::k)) cs w):=by rfl
 exact⟨e,d,f,m,.of_steps (.one (fenced_calm j l A) o) g⟩
theorem CO.gO{o:CO}{c ρ ρ' e w}(hx:Ext ρ ρ')(h:o.post c ρ' e w):o.post c ρ e w:=by
 cases o<;>cases e<;>simp only[CO.post]at h⊢ <;>first
  |exact h
  |(obtain⟨a,b,d⟩:=h;exact⟨a,hx.trans b,d⟩)
  |(obtain⟨a,u,f,b,d⟩:=h;exact⟨a,u,f,hx.trans b,d⟩)
theorem vI{P l R b x a w}(h:roundPost P l R x a w)(c:∀e w,R e w->b e w):roundPost P l b x a w:=by
 cases x<;>simp only[roundPost]at h⊢ <;>first
  |exact h
  |grind
theorem rm{ρ nt}:∀(b)(us:List (Nat×Value))(t)(vs),b.map (·.1)=us.map (·.1)->aU ρ (b.map (·.2)) (us.map (·.2))->uw ρ t nt vs->
  uw ρ (pj nt t b) nt (us.foldl (λtmps p=>tmps.setIfInBounds p.1 p.2) vs)
 |[],[],t,vs,_,_,h=>h
 |[],_::_,t,vs,h,_,_=>by simp at h
 |_::_,[],t,vs,h,_,_=>by simp at h
 |(i,a)::b,(j,u)::us,t,vs,c,d,h=>by
  simp only[b_,List.cons.injEq]at c
  obtain⟨rfl,c⟩:=c
  simp only[b_,aU.aL]at d
  simp only[pj,List.foldl_cons]
  refine rm b us _ _ c d.2 ?_
  cases hi:k_ i nt with
  |true=>rw[t_]at hi;exact h.set d.1 hi
  |false=>
   have f :¬ i<nt:=λe=>by rw[<-t_,hi]at e;cases e
   have:vs.setIfInBounds i u=vs:=by
    apply c_
    simp only[x_]
    exact y_ (by rw[C_,h.1];omega)
   grind
include hX in
theorem uO{l:Nat}{e:Option Code}{g:AV->AH->R}{s:St}(h:sem (HW X l e g s)):∃H',sem (g (.bool e.isNone) H')/\∀c ρ w b N,Rel c ρ s.H w->ρ l=z (b,N)->∃w',(Instr.endRound b e).run P w= .ok (.bool e.isNone) w'/\Rel c ρ H' w':=by
 unfold HW at h
 split at h
 ·rename_i r u t nt v as x df hl
  refine⟨_,h,λc ρ w b N i j=>?_⟩
  have f:=i.dF l
  rw[hl,j]at f
  obtain⟨y,C,d,a,fn,vs,n,o,p,m⟩:=f
  cases n
  refine⟨_,run_endRound e m,i.fC _ (by rw[hl];rfl) j (λk q=>World.putObj_heap_other q) World.putObj_size A A A ?_⟩
  exact⟨b,N,d,a,fn,vs,rfl,o,p,World.putObj_heap_same (Array.getElem?_eq_some_iff.1 m).1⟩
 ·exact zR
include hX in
theorem vJ{rec:kf R}(D:vE P I sem rec):hZ P I sem (roundOf X rec):=by
 intro l args H kn h
 unfold roundOf at h
 split at h
 ·rename_i st pd t nt K as bd df hl
  split at h
  ·rename_i Q
   obtain⟨e,E,h2⟩:=D _ _ _ _ h
   cases e with
   |n s1=>
    simp only[aQ.sem]at E
    split at E
    ·rename_i S t1 Z T U V ad W
     obtain⟨e2,Y,h4⟩:=D _ _ _ _ E
     have ag:∃a H',sem (kn a H')/\∀c ρ b N,ρ l=z (b,N)->∀x a2 m,e2.post c ρ x a2 m->roundPost P b ((CO.ret a H').post c ρ) x a2 m:=by
      cases e2 with
      |n s=>
       obtain⟨H',k1,k2⟩:=uO (P:=P) hX Y
       refine⟨_,H',k1,λc ρ b N o x a2 m j=>?_⟩
       cases x with
       |normal=>
        obtain⟨ρ',hx,u⟩:=j
        obtain⟨w',f1,G⟩:=k2 c ρ' m b N u.heap (hx _ _ o)
        exact⟨_,w',f1,ρ',hx,G,zB⟩
       |_=>exact j.elim
      |r s=>
       obtain⟨H',k1,k2⟩:=uO (P:=P) hX Y
       refine⟨_,H',k1,λc ρ b N o x a2 m j=>?_⟩
       cases x with
       |ret=>
        obtain⟨ρ',hx,u⟩:=j
        obtain⟨w',f1,G⟩:=k2 c ρ' m b N u.heap (hx _ _ o)
        exact⟨_,w',f1,ρ',hx,G,zB⟩
       |_=>exact j.elim
      |x i s=>
       obtain⟨H',k1,k2⟩:=uO (P:=P) hX Y
       refine⟨_,H',k1,λc ρ b N o x a2 m j=>?_⟩
       cases x with
       |exit id=>
        obtain⟨rfl,ρ',hx,u⟩:=j
        obtain⟨w',f1,G⟩:=k2 c ρ' m b N u.heap (hx _ _ o)
        exact⟨_,w',f1,ρ',hx,G,zB⟩
       |_=>exact j.elim
      |g i s=>
       obtain⟨H',k1,k2⟩:=uO (P:=P) hX Y
       refine⟨_,H',k1,λc ρ b N o x a2 m j=>?_⟩
       cases x with
       |goto id=>
        obtain⟨rfl,ρ',hx,u⟩:=j
        obtain⟨w',f1,G⟩:=k2 c ρ' m b N u.heap (hx _ _ o)
        exact⟨_,w',f1,ρ',hx,G,zB⟩
       |_=>exact j.elim
      |p v s=>exact absurd Y hX.fail
     obtain⟨a,H',k1,k2⟩:=ag
     refine⟨a,H',k1,λc ρ w vs b N hG hv u o=>?_⟩
     have J:=u.dF l
     rw[hl,o]at J
     obtain⟨b',N',d,f,fn,us,f1,G,f3,f4⟩:=J
     cases f1
     have ap:vs.toArray.size=K.toArray.size:=by simp[<-hv.length_eq,Q]
     refine⟨_,_,_,_,run_yield f4 ap,λn=>roundIn_of_wpIn (F:=WF d_) trivial ?_⟩
     have a6:cA c ρ {t:=pj nt t (K.zip args),nt,H,df:=[]} {tmps:=(K.toArray.zip vs.toArray).foldl (λtmps (t,a)=>tmps.setIfInBounds t a) us,defers:=[]} w:=by
      refine⟨?_,u,rfl⟩
      have a8:=hv.length_eq
      have:=rm (K.zip args) (K.zip vs) t us (by rw[L_ O,L_ O]) (by rw[M_ O,M_ O];exact hv) f3
      have e1:(K.toArray.zip vs.toArray).foldl (λtmps (x:Nat×Value)=>tmps.setIfInBounds x.1 x.2) us=(K.zip vs).foldl (λtmps p=>tmps.setIfInBounds p.1 p.2) us:=by
       rw[<-Array.foldl_toList];simp
      rw[<-e1]at this
      exact this
     refine wpIn_mono (h2 (z b) n c ρ _ w (λh=>zE) hG a6) λx a1 w1 j=>?_
     cases x with
     |normal=>
      obtain⟨L,y,C⟩:=j
      have q:=C.heap.dF l
      rw[W,y _ _ o]at q
      obtain⟨b',N',d,f,fn,us,g1,g2,g3,g4⟩:=q
      cases g1
      refine⟨_,run_beginRound g4 A,?_⟩
      have a7:Rel c L (s1.H.set l (.loop .busy S t1 Z T U V ad)) (w1.putObj b (.loop {state:=.busy,pending:=S,fn:=fn,tmps:=us,params:=T.toArray,assign:=U,body:=V,defers:=d})):=by
       refine C.heap.fC _ (by rw[W];rfl) (y _ _ o) (λk hk=>World.putObj_heap_other hk) World.putObj_size A A A ?_
       exact⟨b,N,d,f,fn,us,rfl,g2,g3,World.putObj_heap_same (Array.getElem?_eq_some_iff.1 g4).1⟩
      refine wpIn_mono (h4 (z b) n c L a1 _ (λh=>zE) hG ⟨C.tmp,a7,C.df⟩) λx a2 m j=>?_
      have:=k2 c L b N (y _ _ o) x a2 m j
      exact vI this λe w' hq=>CO.gO y hq
     |_=>exact j.elim
    ·exact absurd E hX.fail
   |r s=>exact absurd E hX.fail
   |x i s=>exact absurd E hX.fail
   |g i s=>exact absurd E hX.fail
   |p v s=>exact absurd E hX.fail
  ·exact zR
 ·exact zR
end
end
section
section
variable {R:Type} {X:RI R} {sem:R->Prop} (hX:X.Ok sem) {I:ba} {P:Program} (hI:I.Ok P)
theorem KO{k s b}(h:sem (mA X k s b))(hX:X.Ok sem):∃e:aQ,e.sem sem k/\
  ∀ro n c ρ a w,cA c ρ s a w->(match b with|none=>e.post c ρ .normal a w|some j=>j.wpIn (WF ro) n P (e.post c ρ) a w):=by
 unfold mA at h
 split at h
 ·exact⟨.n s,h,λro n c ρ a w d=>⟨ρ,Ext.refl ρ,d⟩⟩
 ·exact⟨.r s,h,λro n c ρ a w d=>wpIn_ret ⟨ρ,Ext.refl ρ,d⟩⟩
 ·rename_i i
  exact⟨.x i s,h,λro n c ρ a w d=>wpIn_exit ⟨rfl,ρ,Ext.refl ρ,d⟩⟩
 ·rename_i i
  exact⟨.g i s,h,λro n c ρ a w d=>wpIn_goto ⟨rfl,ρ,Ext.refl ρ,d⟩⟩
 ·exact zR
include hX hI in
theorem D5{Γ:FuncId->Option (Spec R)}(cf:rl P I sem Γ){Λ:gy R}(b3:eR P I sem Λ){dr:ot R}(cp:ou P I sem dr){rec:kf R}(S:vE P I sem rec):vE P I sem (Sl X I Γ Λ dr rec):=by
 intro ir t s k h
 have Y:gN P I sem (nB X I Γ rec):=pk hX hI cf S
 have Z:hZ P I sem (roundOf X rec):=vJ hX S
 have ap:∀{t1 t2:Task}{s:St},sem (rec ir t1 s {k with n:=λs'=>rec ir t2 s' k})->
   ∃e:aQ,e.sem sem k/\∀ro n c ρ a w,(ir=false->ro=d_)->c.G=I.G->cA c ρ s a w->fG (WF ro) n P t1 (Exit.then (fG (WF ro) n P t2 (e.post c ρ)) (e.post c ρ)) a w:=by
  intro t1 t2 s h
  obtain⟨e1,L,O⟩:=S _ _ _ _ h
  cases e1 with
  |n s1=>
   obtain⟨e2,h3,h4⟩:=S _ _ _ _ L
   refine⟨e2,h3,λro n c ρ a w C hG J=>(O ro n c ρ a w C hG J).mono λx a1 V K=>?_⟩
   cases x with
   |normal=>
    obtain⟨U,hx,ad⟩:=K
    exact(h4 ro n c U a1 V C hG ad).mono λx a2 w2 K=>aQ.gO hx K
   |_=>exact K.elim
  |x i s1=>
   refine⟨.x i s1,L,λro n c ρ a w C hG J=>(O ro n c ρ a w C hG J).mono λx a1 V K=>?_⟩
   cases x with
   |exit id=>exact K
   |_=>exact K.elim
  |g i s1=>
   refine⟨.g i s1,L,λro n c ρ a w C hG J=>(O ro n c ρ a w C hG J).mono λx a1 V K=>?_⟩
   cases x with
   |goto id=>exact K
   |_=>exact K.elim
  |r s1=>
   refine⟨.r s1,L,λro n c ρ a w C hG J=>(O ro n c ρ a w C hG J).mono λx a1 V K=>?_⟩
   cases x with
   |ret=>exact K
   |_=>exact K.elim
  |p v s1=>
   refine⟨.p v s1,L,λro n c ρ a w C hG J=>(O ro n c ρ a w C hG J).mono λx a1 V K=>?_⟩
   cases x with
   |panic ch=>exact K
   |_=>exact K.elim
 unfold Sl at h
 split at h
 ·
  rename_i c
  obtain⟨e,L,O⟩:=ap h
  exact⟨e,L,λro n E ρ a w C hG J=>mB _ (.inl A) (O ro n E ρ a w C hG J)⟩
 ·
  rename_i r c
  obtain⟨e1,L,O⟩:=S _ _ _ _ h
  cases e1 with
  |g l s1=>
   simp only[aQ.sem]at L
   split at L
   ·rename_i r' hf
    have key:∃e2:aQ,e2.sem sem k/\ew P I ir (.inScope r' c) s1 e2:=by
     split at L
     ·rename_i g hg;exact b3 _ _ _ _ hg _ L
     ·exact S _ _ _ _ L
    obtain⟨e2,h3,h4⟩:=key
    refine⟨e2,h3,λro n E ρ a w C hG J=>iR ((O ro n E ρ a w C hG J).mono λx a1 V K=>?_)⟩
    cases x with
    |goto m=>
     obtain⟨rfl,U,hx,ad⟩:=K
     simp only[mC,hf]
     exact(h4 ro n E U a1 V C hG ad).mono λx a2 w2 K=>aQ.gO hx K
    |_=>exact K.elim
   ·rename_i hf
    refine⟨.g l s1,L,λro n E ρ a w C hG J=>iR ((O ro n E ρ a w C hG J).mono λx a1 V K=>?_)⟩
    cases x with
    |goto m=>
     have a6:=K
     obtain⟨rfl,_⟩:=a6
     simp only[mC,hf]
     exact K
    |_=>exact K.elim
  |n s1=>
   refine⟨.n s1,L,λro n E ρ a w C hG J=>iR ((O ro n E ρ a w C hG J).mono λx a1 V K=>?_)⟩
   cases x<;>first|exact K|exact K.elim
  |x i s1=>
   refine⟨.x i s1,L,λro n E ρ a w C hG J=>iR ((O ro n E ρ a w C hG J).mono λx a1 V K=>?_)⟩
   cases x<;>first|exact K|exact K.elim
  |r s1=>
   refine⟨.r s1,L,λro n E ρ a w C hG J=>iR ((O ro n E ρ a w C hG J).mono λx a1 V K=>?_)⟩
   cases x<;>first|exact K|exact K.elim
  |p v s1=>
   refine⟨.p v s1,L,λro n E ρ a w C hG J=>iR ((O ro n E ρ a w C hG J).mono λx a1 V K=>?_)⟩
   cases x<;>first|exact K|exact K.elim
 ·rename_i c
  split at h
  ·exact⟨.n s,h,λro n E ρ a w C hG J=>wpIn_skip ⟨ρ,Ext.refl ρ,J⟩⟩
  ·rename_i id ops
   obtain⟨e,L,O⟩:=BB hX hI Y Z h id
   exact⟨e,L,λro n E ρ a w C hG J=>O ro n E ρ a w hG J⟩
  ·rename_i id ops
   obtain⟨e,L,O⟩:=cp _ _ Y Z _ _ _ h
   exact⟨e,L,λro n E ρ a w C hG J=>O ro n E ρ a w id hG J⟩
  ·obtain⟨e,L,O⟩:=ap h
   exact⟨e,L,λro n E ρ a w C hG J=>wpIn_seq (O ro n E ρ a w C hG J)⟩
  ·rename_i cd x y
   split at h
   ·rename_i b hb
    have hc:=hX.cond _ _ _ h
    have hv:∀E ρ a w,E.G=I.G->cA E ρ s a w->a.eval cd= .bool b:=λE ρ a w hG J=>by
     have:=J.ev hG cd
     rw[hb]at this
     simpa only[VR]using this
    cases b with
    |true=>
     obtain⟨e,L,O⟩:=S _ _ _ _ (by simpa using hc)
     exact⟨e,L,λro n E ρ a w C hG J=>wpIn_cond_true (hv E ρ a w hG J) (O ro n E ρ a w C hG J)⟩
    |false=>
     obtain⟨e,L,O⟩:=S _ _ _ _ (by simpa using hc)
     exact⟨e,L,λro n E ρ a w C hG J=>wpIn_cond_false (hv E ρ a w hG J) (O ro n E ρ a w C hG J)⟩
   ·exact zR
  ·rename_i id c
   obtain⟨e1,L,O⟩:=S _ _ _ _ h
   cases e1 with
   |x i s1=>
    simp only[aQ.sem]at L
    cases hi:a_ i id with
    |true=>
     rw[hi]at L
     have cr:=dE hi
     subst cr
     refine⟨.n s1,L,λro n E ρ a w C hG J=>wpIn_block (wpIn_mono (O ro n E ρ a w C hG J) λx a1 V K=>?_)⟩
     cases x with
     |exit j=>
      obtain⟨rfl,K⟩:=K
      simp only[Exit.inBlock,if_true]
      exact K
     |_=>exact K.elim
    |false=>
     rw[hi]at L
     have cv :¬ i=id:=λe=>by subst e;have:a_ i i=true:=ni i;rw[this]at hi;cases hi
     refine⟨.x i s1,L,λro n E ρ a w C hG J=>wpIn_block (wpIn_mono (O ro n E ρ a w C hG J) λx a1 V K=>?_)⟩
     cases x with
     |exit j=>
      have a6:=K
      obtain⟨rfl,_⟩:=a6
      simp only[Exit.inBlock,if_neg cv]
      exact K
     |_=>exact K.elim
   |n s1=>
    refine⟨.n s1,L,λro n E ρ a w C hG J=>wpIn_block (wpIn_mono (O ro n E ρ a w C hG J) λx a1 V K=>?_)⟩
    cases x<;>first|exact K|exact K.elim
   |g i s1=>
    refine⟨.g i s1,L,λro n E ρ a w C hG J=>wpIn_block (wpIn_mono (O ro n E ρ a w C hG J) λx a1 V K=>?_)⟩
    cases x<;>first|exact K|exact K.elim
   |r s1=>
    refine⟨.r s1,L,λro n E ρ a w C hG J=>wpIn_block (wpIn_mono (O ro n E ρ a w C hG J) λx a1 V K=>?_)⟩
    cases x<;>first|exact K|exact K.elim
   |p v s1=>
    refine⟨.p v s1,L,λro n E ρ a w C hG J=>wpIn_block (wpIn_mono (O ro n E ρ a w C hG J) λx a1 V K=>?_)⟩
    cases x<;>first|exact K|exact K.elim
  ·rename_i c
   split at h
   ·rename_i g hg
    exact b3 _ _ _ _ hg _ h
   ·obtain⟨e,L,O⟩:=ap h
    exact⟨e,L,λro n E ρ a w C hG J=>mB _ (.inr A) (O ro n E ρ a w C hG J)⟩
  ·rename_i f ps as bd
   split at h
   ·rename_i g first b4 c6
    split at h
    ·rename_i hg
     obtain⟨⟨cg,ng,rg⟩,a7⟩:=Option.isSome_iff_exists.1 hg
     obtain⟨ei,eg,ej,_,_,a8⟩:=hI.body g cg ng rg a7
     have enter:=a8
     obtain⟨o,L,O⟩:=Y _ _ _ _ _ h
     have dk:∀E ρ (a:Act) w,cA E ρ s a w->∀fn,∃Q b N D q w2,Ext ρ Q/\Q (s.H.n+1)=z (b,N)/\Q s.H.n=z (D,q)/\
       Rel E Q ((s.H.new .tE).new (.loop .ready d_ s.t s.nt ps.toList as bd s.H.n)) w2/\
       (Instr.enterLoop fn a.tmps ps as bd d_).run P w= .ok (b,[{target:=.collected D,args := #[]}]) w2:=by
      intro E ρ a w J fn
      obtain⟨b5,ad⟩:=J.heap.new (.deferred (z [])) 0 .tE λw' bc=>⟨_,_,rfl,bc⟩
      obtain⟨T,W⟩:=ad.new (.loop {state:=.ready,pending:=d_,fn:=fn,tmps:=a.tmps,params:=ps,assign:=as,body:=bd,defers:=w.heap.size}) 0 (.loop .ready d_ s.t s.nt ps.toList as bd s.H.n) λw' bc=>by
       refine⟨_,_,w.heap.size,0,fn,a.tmps,rfl,?_,J.tmp.ext (b5.trans (Env.nk _ (ad.top _ (dw _)))),by simpa using bc⟩
       rw[Env.ec _ _ zA]
       exact Env.cP _ _ _
      refine⟨_,_,0,w.heap.size,0,_,b5.trans T,Env.cP _ _ _,?_,W,?_⟩
      ·rw[Env.ec _ _ zA]
       exact Env.cP _ _ _
      ·rw[run_enterLoop_outer]
       simp only[World.alloc,Array.size_push]
     have b6:∀e:aQ,(∀n E ρ (a:Act) (V:World) U d N D q en,E.G=I.G->Ext ρ U->U (s.H.n+1)=z (d,N)->U s.H.n=z (D,q)->uw U s.t s.nt a.tmps->Gh U s.df a.defers->
       o.post E U en V->rangePost (WF d_) n P d (e.post E ρ) {a with defers:=[{target:=.collected D,args := #[]}]++a.defers} en V)->
       ∀ro n E ρ a w,ro=d_->E.G=I.G->cA E ρ s a w->(Code.rangeFunc f ps as bd).wpIn (WF ro) n P (e.post E ρ) a w:=by
      intro e bi ro n E ρ a w C hG J
      subst C
      refine wpIn_rangeFunc λfn _=>?_
      obtain⟨Q,b,N,D,q,w2,hx,hb,hD,W,b7⟩:=dk E ρ a w J fn
      have hv:=J.ev hG f
      rw[c6]at hv
      simp only[VR]at hv
      obtain⟨us,vs,dt,dv,ea⟩:=hv
      have bq:aU Q (first++ .yield (s.H.n+1)::b4) (us++ .func (.yield b) #[] #[]::vs):=
       (aU.ext hx _ _ dv).append (aU.aL.2 ⟨by simp only[VR];exact⟨b,N,hb,rfl⟩,aU.ext hx _ _ ea⟩)
      have e1:us.toArray++ #[E_ (.yield b) #[] #[]]++vs.toArray=(us++ .func (.yield b) #[] #[]::vs).toArray:=by apply c_;simp
      refine⟨b,_,w2,{target:=.fn (.func g) vs.toArray,args:=us.toArray++ #[.func (.yield b) #[] #[]]},w2,g,(us++ .func (.yield b) #[] #[]::vs).toArray,w2,b7,?_,λ_ _=>trivial,?_,λhh=>by simp[WF,Fence.wide]at hh,?_⟩
      ·have e2:Array.map a.eval #[Operand.const (E_ (Fn.yield b) #[] #[])]= #[E_ (.yield b) #[] #[]]:=by simp[Act.eval]
       simp only[resolve,dt,Deferred.ofValue,Sem.run_pure,e2]
      ·simp only[invoke,e1,enter]
      ·rcases O E Q w2 _ hG bq W with⟨_,k2⟩|⟨v,w',k1,_⟩
       ·refine CallsIn.mono (F:=WF d_) (R:=o.post E Q) ?_ λen w' K=>?_
        ·have b8:CallsIn Fence.wide (n-1) P g (us++ .func (.yield b) #[] #[]::vs).toArray w2 (o.post E Q):=callsIn_wide.2 k2
         exact b8
        ·exact bi n E ρ a w' Q b N D q en hG hx hb hD (J.tmp.ext hx) (J.df.ext hx) K
       ·rw[enter]at k1;cases k1
     cases o with
     |ret v H'=>
      simp only[CO.sem]at L
      have done:∀pd (st:LoopState) t nt bs b0 b1 b9,H'.get (s.H.n+1)= .loop st pd t nt bs b0 b1 b9->st≠ .busy->sem (mA X k {s with H:=H'.set (s.H.n+1) .dead,df:=s.H.n::s.df} pd)->
        ∃e:aQ,e.sem sem k/\∀ro n E ρ a w,(false=false->ro=d_)->E.G=I.G->cA E ρ s a w->fG (WF ro) n P (.code (.rangeFunc f ps as bd)) (e.post E ρ) a w:=by
       intro pd st t nt bs b0 b1 b9 hl ed L
       obtain⟨e,h3,h4⟩:=KO (P:=P) L hX
       refine⟨e,h3,λro n E ρ a w C hG J=>b6 e (λn E ρ a V U d N D q en hG hx hd hD ht b2 K=>?_) ro n E ρ a w (C A) hG J⟩
       cases en with
       |returned u=>
        obtain⟨Q,T,W,hv⟩:=K
        have ag:=W.dF (s.H.n+1)
        rw[hl,T _ _ hd]at ag
        obtain⟨b',N',dd,MM,fn,us,g1,g2,g3,g4⟩:=ag
        cases g1
        have cc:=run_endLoop (P:=P) g4 ed
        have ee:Rel E Q (H'.set (s.H.n+1) .dead) (V.putObj d (.loop {state:=.exhausted,pending:=pd,fn:=fn,tmps:=us,params:=bs.toArray,assign:=b0,body:=b1,defers:=dd})):=
         W.fC .dead (by rw[hl];rfl) (T _ _ hd) (λk hk=>World.putObj_heap_other hk) World.putObj_size A A A trivial
        have ef:cA E Q {s with H:=H'.set (s.H.n+1) .dead,df:=s.H.n::s.df} {a with defers:=[{target:=.collected D,args := #[]}]++a.defers} _ :=
         ⟨ht.ext T,ee,D,q,a.defers,T _ _ hD,rfl,b2.ext T⟩
        refine⟨pd,_,cc,?_⟩
        have:=h4 d_ n E Q _ _ ef
        cases pd with
        |none=>exact aQ.gO (hx.trans T) this
        |some j=>exact wpIn_mono this λx a w K=>aQ.gO (hx.trans T) K
       |panicked ch=>exact K.elim
       |outgrown=>exact K.elim
      split at L
      ·rename_i hl
       exact done _ _ _ _ _ _ _ _ hl zA L
      ·rename_i hl
       exact done _ _ _ _ _ _ _ _ hl zA L
      ·exact absurd L hX.fail
     |qt v H'=>
      refine⟨.p v {s with H:=H',df:=s.H.n::s.df},L,λro n E ρ a w C hG J=>b6 _ (λn E ρ a V U d N D q en hG hx hd hD ht b2 K=>?_) ro n E ρ a w (C A) hG J⟩
      cases en with
      |panicked ch=>
       obtain⟨Q,u,rfl,T,W,hv⟩:=K
       exact⟨Q,u,rfl,hx.trans T,⟨ht.ext T,W,D,q,a.defers,T _ _ hD,rfl,b2.ext T⟩,hv⟩
      |returned u=>exact K.elim
      |outgrown=>exact K.elim
    ·exact zR
   ·exact zR
  ·rename_i id
   exact⟨.x id s,h,λro n E ρ a w C hG J=>wpIn_exit ⟨rfl,ρ,Ext.refl ρ,J⟩⟩
  ·rename_i c
   obtain⟨e,L,O⟩:=S _ _ _ _ h
   exact⟨e,L,λro n E ρ a w C hG J=>KN (O ro n E ρ a w C hG J)⟩
  ·exact⟨.n s,h,λro n E ρ a w C hG J=>wpIn_label ⟨ρ,Ext.refl ρ,J⟩⟩
  ·rename_i l
   exact⟨.g l s,h,λro n E ρ a w C hG J=>wpIn_goto ⟨rfl,ρ,Ext.refl ρ,J⟩⟩
  ·exact⟨.r s,h,λro n E ρ a w C hG J=>wpIn_ret ⟨ρ,Ext.refl ρ,J⟩⟩
  ·exact zR
include hX hI in
theorem D6{d:FuncId->Option (Spec R)}(a:rl P I sem d){e:gy R}(b:eR P I sem e){f:ot R}(c:ou P I sem f):∀fuel,vE P I sem (run X I d e f fuel)
 |0=>λ_ _ _ _ h=>zR
 |fuel+1=>D5 hX hI a b c (D6 a b c fuel)
end
end
end
end Go.Sx
