/- Lemmas, part 5. -/
import Derived.Test.YtoijalagmmgkbaaGreatDoorX04
set_option linter.all false
set_option linter.defProp false
set_option maxRecDepth 1000000
namespace Go.Sx
open Go
open _root_.Array renaming getD_eq_getD_getElem?->M,getElem?_eq_getElem->z,getElem?_setIfInBounds->d_,replicate->k_,ext'->n_,getElem?_eq_none->t_
open Option renaming some->a_,none->j_
open Decidable renaming decide->b_
open Bool renaming eq_false_iff->c_
open List renaming range->e_,mem_cons_of_mem->g_,mem_cons_self->o_,map_cons->r_,getElem?_cons_zero->s_,map_fst_zip->z_,map_snd_zip->A_,mapM->G_
open Nat renaming beq->f_,blt_eq->l_,blt->p_,strongRecOn->q_,le_trans->u_,lt_or_ge->v_,zero_le->w_,lt_of_lt_of_le->y_,ble->B_,le_of_not_lt->C_,add_zero->E_,zero_add->F_
open Classical renaming byContradiction->h_
open AH renaming get_set_same->i_,pr->D_,bH->H_
open Function renaming comp_def->m_
noncomputable section
section
inductive Task where
 |code (c:Code)
 |inLoop (c:Code)
 |inScope (r c:Code)
def Task.items:Task->List Item
 | .code c=>[.code c]
 | .inLoop c=>[.inLoop c]
 | .inScope r c=>[.code r,.inScope c]
def fG(F:Fence)(n:Nat)(P:Program)(t:Task)(Q:Exit->Act->World->Prop)(a:Act)(w:World):Prop :=
 ∀(b:Frame)(k:List Item)(cs:List Frame),b.roundOf=F.round->F.fn b.fn->F.room (cs.length+1+n)->
  ∃e a' w',Q e a' w'/\ArrivesIn (Machine.fenced P F) P (lone (b.atR a (t.items++k)) cs w) b k cs e a' w'
theorem fG.KI{F n P c Q a w}:fG F n P (.code c) Q a w↔c.wpIn F n P Q a w:=Iff.rfl
abbrev kf(R:Type):=Bool->Task->St->KS R->R
abbrev Spec(R:Type):=List AV->AH->(AV->AH->R)->(AV->AH->R)->R
def Dj(P:Program)(I:ba)(ir:Bool)(t:Task)(s:St)(e:aQ):Prop :=
 ∀ro n c ρ a w,(ir=false->ro=j_)->c.G=I.G->cA c ρ s a w->fG (WF ro) n P t (e.post c ρ) a w
def Yd{R:Type}(P:Program)(I:ba)(sem:R->Prop)(rec:kf R):Prop :=
 ∀ir t s k,sem (rec ir t s k)->∃e:aQ,e.sem sem k/\Dj P I ir t s e
abbrev gy(R:Type):=Bool->Task->St->Option (KS R->R)
def eR{R:Type}(P:Program)(I:ba)(sem:R->Prop)(a:gy R):Prop :=
 ∀ir t s g,a ir t s=a_ g->∀k,sem (g k)->∃e:aQ,e.sem sem k/\Dj P I ir t s e
def rl{R:Type}(P:Program)(I:ba)(sem:R->Prop)(b:FuncId->Option (Spec R)):Prop :=
 ∀f s,b f=a_ s->∀args H a kp,sem (s args H a kp)->∃o:CO,o.sem sem a kp/\af P I f args H o
abbrev ot(R:Type):=iQ R->gZ R->Array Oper->KS R->St->R
def ou{R:Type}(P:Program)(I:ba)(sem:R->Prop)(d:ot R):Prop :=
 ∀b round,gN P I sem b->Ke P I sem round->∀ops k s,sem (d b round ops k s)->∃e:aQ,e.sem sem k/\∀ro n c ρ a w id,c.G=I.G->cA c ρ s a w->(Code.region id ops true).wpIn (WF ro) n P (e.post c ρ) a w
section
variable {R:Type} (X:RI R) (I:ba)
def vG:List Nat->AH->(AH->R)->R
 |[],H,K=>K H
 |l::a,H,K=>match H.get l with
  | .tE=>vG a (H.set l .dead) K
  |_=>X.fail
def KJ(s:St)(H:AH):List ResultVar->(List AV->R)->R
 |[],K=>K []
 | .tmp t::rs,K=>KJ s H rs (λvs=>K (cR s.t t::vs))
 | .cell a t::rs,K=>yf X I t H (cR s.t a) (λv=>KJ s H rs (λvs=>K (v::vs)))
def oneOf:List AV->AV
 |[v]=>v
 |vs=> .qP vs
def leave(rs:List ResultVar)(s:St)(a:AV->AH->R):R :=
 vG X s.df s.H λH=>KJ X I s H rs λvs=>a (oneOf vs) H
def vH:Tr AV->Nat->List AV->Tr AV
 |t,_,[]=>t
 |t,i,a::as=>vH (t.set i a) (i+1) as
def St.start(args:List AV)(n:Nat)(H:AH):St:={t:=vH .e 0 args,nt:=args.length+(n-args.length),H,df:=[]}
def nB(d:FuncId->Option (Spec R))(rec:kf R):iQ R:=λf args H b kp=>
 match d f with
 |some s=>s args H b kp
 |none=>match I.body f with
  |some (c,n,rs)=>rec false (.code c) (.start args n H)
    {n:=λs=>leave X I rs s b,r:=λs=>leave X I rs s b,x:=λ_ _=>X.fail,g:=λ_ _=>X.fail,p:=λa s=>vG X s.df s.H (kp a)}
  |none=>X.fail
def pj(nt:Nat)(t:Tr AV)(a:List (Nat×AV)):Tr AV:=a.foldl (λt p=>bif p_ p.1 nt then t.set p.1 p.2 else t) t
def HW(l:Nat)(a:Option Code)(b:AV->AH->R)(s:St):R :=
 match s.H.get l with
 | .loop _ _ t nt c as d df=>b (.bool a.isNone) (s.H.set l (.loop (if a.isNone then .ready else .done) a t nt c as d df))
 |_=>X.fail
def roundOf(rec:kf R):gZ R:=λl args H a=>
 match H.get l with
 | .loop _ _ t nt b as e _=>
  if b.length=args.length then
   rec true (.code as) {t:=pj nt t (b.zip args),nt,H,df:=[]}
    {n:=λc=>match c.H.get l with
      | .loop .ready f t nt b as d df=>rec true (.code e) (c.heap (c.H.set l (.loop .busy f t nt b as d df)))
        {n:=HW X l j_ a,r:=HW X l (a_ .ret) a,x:=λi=>HW X l (a_ (.exit i)) a,g:=λi=>HW X l (a_ (.goto i)) a,p:=λ_ _=>X.fail}
      |_=>X.fail
     x:=λ_ _=>X.fail,g:=λ_ _=>X.fail,r:=λ_=>X.fail,p:=λ_ _=>X.fail}
  else X.fail
 |_=>X.fail
def mA(k:KS R)(s:St):Option Code->R
 |none=>k.n s
 |some .ret=>k.r s
 |some (.exit i)=>k.x i s
 |some (.goto i)=>k.g i s
 |_=>X.fail
def Sl(e:FuncId->Option (Spec R))(j:gy R)(o:ot R)(rec:kf R):kf R:=λir t s k=>
 match t with
 | .inLoop c=>rec ir (.code c) s {k with n:=λa=>rec ir (.inLoop c) a k}
 | .inScope r c=>rec ir (.code r) s {k with g:=λl a=>match findLabel c l with
   |some m=>match j ir (.inScope m c) a with
    |some g=>g k
    |none=>rec ir (.inScope m c) a k
   |none=>k.g l a}
 | .code c=>match c with
  | .skip=>k.n s
  | .region _ ops false=>SC X I (nB X I e rec) (roundOf X rec) ops k ops.toList s
  | .region _ ops true=>o (nB X I e rec) (roundOf X rec) ops k s
  | .seq x y=>rec ir (.code x) s {k with n:=λa=>rec ir (.code y) a k}
  | .cond c x y=>match s.ev I.G c with
   | .bool b=>X.cond b (λ_=>rec ir (.code x) s k) (λ_=>rec ir (.code y) s k)
   |_=>X.fail
  | .block id c=>rec ir (.code c) s {k with x:=λi a=>bif f_ i id then k.n a else k.x i a}
  | .loop c=>match j ir (.code (.loop c)) s with
   |some g=>g k
   |none=>rec ir (.code c) s {k with n:=λa=>rec ir (.inLoop c) a k}
  | .rangeFunc f q as u=>match ir,s.ev I.G f with
   |false,.fn g first d=>match(I.body g).isSome with
    |true=>
     nB X I e rec g (first++ .yield (s.H.n+1)::d) ((s.H.new .tE).new (.loop .ready j_ s.t s.nt q.toList as u s.H.n))
      (λ_ H=>match H.get (s.H.n+1)with
       | .loop .ready h _ _ _ _ _ _=>mA X k {s with H:=H.set (s.H.n+1) .dead,df:=s.H.n::s.df} h
       | .loop .done h _ _ _ _ _ _=>mA X k {s with H:=H.set (s.H.n+1) .dead,df:=s.H.n::s.df} h
       |_=>X.fail)
      (λv H=>k.p v {s with H:=H,df:=s.H.n::s.df})
    |false=>X.fail
   |_,_=>X.fail
  | .exit id=>k.x id s
  | .scope c=>rec ir (.inScope c c) s k
  | .label _=>k.n s
  | .goto l=>k.g l s
  | .ret=>k.r s
  | .refuse _=>X.fail
def run(a:FuncId->Option (Spec R))(b:gy R)(c:ot R)(fuel:Nat):kf R :=
 Nat.rec (motive:=λ_=>kf R) (λ_ _ _ _=>X.fail) (λ_ rec=>Sl X I a b c rec) fuel
end
section
variable {R:Type} {X:RI R} {sem:R->Prop} (hX:X.Ok sem) {I:ba} {P:Program} (hI:I.Ok P)
include hX in
theorem yd(P:Program):∀{g:List Nat}{H:AH}{K:AH->R},sem (vG X g H K)->
  ∃H',sem (K H')/\∀(F:Fence)(n:Nat)(fn:Func)(tmps:Array Value)(d:Ending->World->Prop)(u:FrameMode),u≠ .run->∀c ρ w ds,Rel c ρ H w->Gh ρ g ds->(∀w',Rel c ρ H' w'->LeavesIn F n P fn tmps d [] u w')->LeavesInM F n P fn tmps d ds u w
 |[],H,K,h=>⟨H,h,λF n fn tmps d u i c ρ w ds e f hQ=>by
   simp only[Gh]at f;subst f
   exact hQ w e⟩
 |l::g,H,K,h=>by
  simp only[vG]at h
  split at h
  ·rename_i hl
   obtain⟨H',m,o⟩:=yd P h
   refine⟨H',m,λF n fn tmps d u i c ρ w ds e f hQ=>?_⟩
   obtain⟨b,N,rest,e1,rfl,p⟩:=f
   have a:=e.dF l
   rw[hl,e1]at a
   obtain⟨t,v,q,j⟩:=a
   cases q
   have r:b<w.heap.size:=(Array.getElem?_eq_some_iff.1 j).1
   refine⟨i,.inl ⟨b,_,rfl,run_takeDeferred j,o F n fn tmps d u i c ρ _ rest ?_ p hQ⟩⟩
   exact e.fC .dead (by rw[hl];rfl) e1 (λk s=>World.putObj_heap_other s) World.putObj_size A A A trivial
  ·exact zR
theorem D4{P v}(h:∃a,v= .pointer (a_ a))(t)(w):(do loadVar t (<-asAddr v):Sem Value).run P w=(Instr.loadAt t v).run P w:=by
 obtain⟨a,rfl⟩:=h
 rfl
theorem pY{P}{α b:Type}(f:α->Sem b)(x)(xs)(w):(G_ f (x::xs)).run P w=((f x).run P w).andThen λy w'=>((G_ f xs).run P w').andThen λc a=> .ok (y::c) a:=by
 simp[List.mapM_cons]
include hX hI in
theorem z6{s:St}{H:AH}:∀{rs:List ResultVar}{K:List AV->R},sem (KJ X I s H rs K)->
  ∃vs,sem (K vs)/\∀c ρ w tmps,uw ρ s.t s.nt tmps->Rel c ρ H w->∃us,(rs.mapM (λx:ResultVar=>(match x with
   | .tmp t=>pure (tmps.getD t undef)
   | .cell a t=>do loadVar t (<-asAddr (tmps.getD a undef)):Sem Value))).run P w= .ok us w/\aU ρ vs us
 |[],K,h=>⟨[],h,λc ρ w tmps ht d=>⟨[],zA,zH⟩⟩
 | .tmp t::rs,K,h=>by
  obtain⟨vs,f,g⟩:=z6 (rs:=rs) h
  refine⟨_,f,λc ρ w tmps ht d=>?_⟩
  obtain⟨us,i,l⟩:=g c ρ w tmps ht d
  refine⟨tmps.getD t undef::us,?_,aU.aL.2 ⟨ht.2 t,l⟩⟩
  rw[pY]
  simp only[Sem.run_pure,Result.andThen_ok,i]
 | .cell a t::rs,K,h=>by
  simp only[KJ]at h
  have m:∃q,Pf H (cR s.t a)=a_ q:=by
   unfold yf at h
   split at h
   ·exact⟨_,zI⟩
   ·exact zR
  obtain⟨⟨dF,k,e,j⟩,m⟩:=m
  obtain⟨v,f,g⟩:=vf hX hI h
  obtain⟨vs,i,l⟩:=z6 (rs:=rs) f
  refine⟨_,i,λc ρ w tmps ht d=>?_⟩
  obtain⟨us,n,o⟩:=l c ρ w tmps ht d
  obtain⟨u,p,r⟩:=g c ρ w _ (ht.2 a) d
  obtain⟨b,q,y,_⟩:=Ll m (ht.2 a) d
  refine⟨u::us,?_,aU.aL.2 ⟨r,o⟩⟩
  rw[pY]
  simp only[D4 ⟨_,y⟩,p,Result.andThen_ok,n]
theorem KL{ρ vs us}(h:aU ρ vs us):VR ρ (oneOf vs) (if h:us.toArray.size=1 then us.toArray[0]else .tuple us.toArray):=by
 have hl:=h.length_eq
 unfold oneOf
 split
 ·rename_i v
  simp only[aU]at h
  grind
 ·rename_i a
  have :¬ us.toArray.size=1:=by
   simp only[List.size_toArray]
   intro e
   rw[e]at hl
   match vs,hl with
   |[v],_=>exact a v A
  rw[dif_neg this]
  simp only[VR]
  grind
include hX hI in
theorem BC{rs:List ResultVar}{s:St}{g:AV->AH->R}(h:sem (leave X I rs s g)):∃v H',sem (g v H')/\∀c ρ a w (fn:Func) (F:Fence) (n:Nat) (d:Ending->World->Prop),cA c ρ s a w->fn.results.toList=rs->
  (∀u w',Rel c ρ H' w'->VR ρ v u->d (.returned u) w')->LeavesInM F n P fn a.tmps d a.defers .returning w:=by
 unfold leave at h
 obtain⟨H',i,j⟩:=yd hX P h
 obtain⟨vs,k,l⟩:=z6 hX hI i
 refine⟨_,H',k,λc ρ a w fn F n d e f hQ=>?_⟩
 refine j F n fn a.tmps d .returning zA c ρ w a.defers e.heap e.df λw' b=>?_
 obtain⟨us,m,o⟩:=l c ρ w' a.tmps e.tmp b
 refine⟨_,?_,hQ _ w' b (KL o)⟩
 have e1:fn.results=rs.toArray:=by apply n_;simpa using f
 unfold results
 rw[e1]
 simp only[List.mapM_toArray,Sem.run_bind]
 have p:(Functor.map List.toArray (rs.mapM (λx:ResultVar=>(match x with
   | .tmp t=>pure (a.tmps.getD t undef)
   | .cell a1 t=>do loadVar t (<-asAddr (a.tmps.getD a1 undef)):Sem Value)))).run P w'= .ok us.toArray w':=by
  rw[map_eq_pure_bind]
  simp only[Sem.run_bind,Sem.run_pure]
  rw[m]
  rfl
 erw [p]
 simp only[Result.andThen_ok,Sem.run_pure]
theorem tK:∀(as)(t)(i j),cR (vH t i as) j=if i<=j/\j<i+as.length then as.getD (j-i) .any else cR t j
 |[],t,i,j=>by
  simp only[vH,List.length_nil,E_]
  grind
 |a::as,t,i,j=>by
  simp only[vH]
  rw[tK as _ (i+1) j,oo]
  grind
theorem KM{c ρ H w args vs}(b:aU ρ args vs)(e:Rel c ρ H w)(n):
  cA c ρ (.start args n H) {tmps:=vs.toArray++k_ (n-vs.toArray.size) undef,defers:=[]} w:=by
 have hl:=b.length_eq
 refine⟨⟨by simp[St.start,hl],λj=>?_⟩,e,rfl⟩
 simp only[St.start]
 rw[tK]
 simp only[w_,true_and,F_,Nat.sub_zero]
 by_cases d:j<args.length
 ·rw[if_pos d]
  obtain⟨v,f,g⟩:=b.get j (a:=args.getD j .any) Y
  have:(vs.toArray++k_ (n-vs.toArray.size) undef).getD j undef=v:=by
   rw[M,Array.getElem?_append_left zJ]
   simp[f]
  rw[this];exact g
 ·rw[if_neg d]
  simp only[cR,Tr.qV,VR]
include hX hI in
theorem VU{L:FuncId->Option (Spec R)}(J:rl P I sem L){rec:kf R}(y:Yd P I sem rec):gN P I sem (nB X I L rec):=by
 intro f args H N kp h
 unfold nB at h
 split at h
 ·rename_i s O
  exact J f s O args H N kp h
 ·split at h
  ·rename_i c n rs Q
   obtain⟨fn,S,m,hn,B,q⟩:=hI.body f c n rs Q
   obtain⟨e,C,T⟩:=y _ _ _ _ h
   have enter:=q
   have body:∀(o:CO),(∀b ρ a w x,e.post b ρ x a w->bodyPostM (WF j_) 0 P fn (o.post b ρ) x a w)->af P I f args H o:=by
    intro o U b ρ w vs hG t j
    refine .inl ⟨enter _ _,?_⟩
    have D:CallsIn (WF j_) 0 P f vs.toArray w (o.post b ρ):=?_
    ·exact callsIn_wide.1 D
    have K:=KM t j n
    have:=T j_ 0 b ρ _ w (λ_=>rfl) hG K
    rw[fG.KI]at this
    exact callsIn_of_wp_marks (F:=WF j_) S m trivial (wpIn_mono (by rw[hn];exact this) λx a w=>U b ρ a w x)
   cases e with
   |n s=>
    obtain⟨v,H',E,G⟩:=BC hX hI (P:=P) C
    refine⟨.ret v H',E,body _ λb ρ a w x k=>?_⟩
    cases x with
    |normal=>
     obtain⟨ρ',hx,j⟩:=k
     exact G b ρ' a w fn _ _ _ j B λu w' d t=>⟨ρ',hx,d,t⟩
    |_=>exact k.elim
   |r s=>
    obtain⟨v,H',E,G⟩:=BC hX hI (P:=P) C
    refine⟨.ret v H',E,body _ λb ρ a w x k=>?_⟩
    cases x with
    |ret=>
     obtain⟨ρ',hx,j⟩:=k
     exact G b ρ' a w fn _ _ _ j B λu w' d t=>⟨ρ',hx,d,t⟩
    |_=>exact k.elim
   |x i s=>exact absurd C hX.fail
   |g l s=>exact absurd C hX.fail
   |p v s=>
    obtain⟨H',E,G⟩:=yd hX P C
    refine⟨.qt v H',E,body _ λb ρ a w x k=>?_⟩
    cases x with
    |panic V=>
     obtain⟨ρ',u,rfl,hx,j,t⟩:=k
     exact G _ _ fn a.tmps _ (.panicking _) zA b ρ' w a.defers j.heap j.df λw' d=>⟨ρ',u,rfl,hx,d,t⟩
    |_=>exact k.elim
  ·exact zR
theorem fG.mono{F n P t Q d a w}(h:fG F n P t Q a w)(hq:∀e a w,Q e a w->d e a w):fG F n P t d a w :=
 λb k cs c f i=>let⟨e,a',w',q,r⟩:=h b k cs c f i;Y
theorem mB{F n P c Q a w}(t)(ht:t= .inLoop c∨t= .code (.loop c))
  (h:c.wpIn F n P (Exit.then (fG F n P (.inLoop c) Q) Q) a w):fG F n P t Q a w:=by
 intro b k cs m s u
 have g:(lone (b.atR a (t.items++k)) cs w).fenced P F/\step P (lone (b.atR a (t.items++k)) cs w)= .next (lone (b.atR a (.code c::.inLoop c::k)) cs w):=by
  rcases ht with rfl|rfl
  ·exact⟨fenced_calm s u A,stepR_inLoop⟩
  ·exact⟨fenced_calm s u A,stepR_loop⟩
 obtain⟨e,d,f,hq,o⟩:=h b (.inLoop c::k) cs m s u
 cases e with
 |normal=>
  obtain⟨p,q,r,j,i⟩:=hq b k cs m s u
  exact⟨p,q,r,j,.of_steps (.head g.1 g.2 o) i⟩
 |exit id=>exact⟨_,d,f,hq,.of_steps (.one g.1 g.2) zI⟩
 |goto l=>exact⟨_,d,f,hq,.of_steps (.one g.1 g.2) zI⟩
 |ret=>exact⟨_,d,f,hq,.of_steps (.one g.1 g.2) zI⟩
 |panic v=>exact⟨_,d,f,hq,.of_steps (.one g.1 g.2) zI⟩
 |outgrown=>exact⟨_,d,f,hq,.of_steps (.one g.1 g.2) zI⟩
def mC(F:Fence)(n:Nat)(P:Program)(c:Code)(Q:Exit->Act->World->Prop):Exit->Act->World->Prop
 | .goto l,a,w=>match findLabel c l with
  |some r=>fG F n P (.inScope r c) Q a w
  |none=>Q (.goto l) a w
 |e,a,w=>Q e a w
theorem iR{F:Fence}{n:Nat}{P:Program}{c r:Code}{Q:Exit->Act->World->Prop}{a:Act}{w:World}(h:r.wpIn F n P (mC F n P c Q) a w):fG F n P (.inScope r c) Q a w:=by
 intro b k cs p y j
 obtain⟨e,f,g,hq,d⟩:=h b (.inScope c::k) cs p y j
 have q:∀id,exitTo id (.inScope c::k)=exitTo id k:=λid=>by simp[exitTo]
 cases e with
 |normal=>
  have C:step P (lone (b.atR f (.inScope c::k)) cs g)= .next (lone (b.atR f k) cs g):=by rfl
  exact⟨.normal,f,g,hq,StepsIn.trans d (.one (fenced_calm y j A) C)⟩
 |exit id=>exact⟨_,f,g,hq,λB m=>d.1 B (by rw[q];exact m),λj m=>d.2 j (by rw[q];exact m)⟩
 |goto l=>
  simp only[mC]at hq
  cases v:findLabel c l with
  |some D=>
   rw[v]at hq
   have x:gotoIn l (.inScope c::k)=a_ (.code D::.inScope c::k):=by simp[gotoIn,v]
   obtain⟨s,t,u,o,i⟩:=hq b k cs p y j
   exact⟨s,t,u,o,.of_steps (d.1 _ x) i⟩
  |none=>
   rw[v]at hq
   have x:gotoIn l (.inScope c::k)=gotoIn l k:=by simp[gotoIn,v]
   exact⟨_,f,g,hq,λB m=>d.1 B (by rw[x];exact m),λj m=>d.2 j (by rw[x];exact m)⟩
 |ret=>exact⟨_,f,g,hq,d⟩
 |panic E=>exact⟨_,f,g,hq,d⟩
 |outgrown=>exact⟨_,f,g,hq,d⟩
theorem KN{F n P c Q a w}(h:fG F n P (.inScope c c) Q a w):fG F n P (.code (.scope c)) Q a w:=by
 intro b k cs i j l
 obtain⟨e,d,f,hq,g⟩:=h b k cs i j l
 have m:step P (lone (b.atR a (.code (.scope c)::k)) cs w)= .next (lone (b.atR a (.code c::.inScope c::k)) cs w):=by rfl
 exact⟨e,d,f,hq,.of_steps (.one (fenced_calm j l A) m) g⟩
theorem CO.gO{o:CO}{c ρ ρ' e w}(hx:Ext ρ ρ')(h:o.post c ρ' e w):o.post c ρ e w:=by
 cases o<;>cases e<;>simp only[CO.post]at h⊢ <;>first
  |exact h
  |(obtain⟨a,b,d⟩:=h;exact⟨a,hx.trans b,d⟩)
  |(obtain⟨a,u,f,b,d⟩:=h;exact⟨a,u,f,hx.trans b,d⟩)
theorem vI{P l R b x a w}(h:roundPost P l R x a w)(c:∀e w,R e w->b e w):roundPost P l b x a w:=by
 cases x<;>simp only[roundPost]at h⊢ <;>first
  |exact h
  |grind
theorem rm{ρ nt}:∀(b)(us:List (Nat×Value))(t)(vs),b.map (·.1)=us.map (·.1)->aU ρ (b.map (·.2)) (us.map (·.2))->uw ρ t nt vs->
  uw ρ (pj nt t b) nt (us.foldl (λtmps p=>tmps.setIfInBounds p.1 p.2) vs)
 |[],[],t,vs,_,_,h=>h
 |[],_::_,t,vs,h,_,_=>by simp at h
 |_::_,[],t,vs,h,_,_=>by simp at h
 |(i,a)::b,(j,u)::us,t,vs,c,d,h=>by
  simp only[r_,List.cons.injEq]at c
  obtain⟨rfl,c⟩:=c
  simp only[r_,aU.aL]at d
  simp only[pj,List.foldl_cons]
  refine rm b us _ _ c d.2 ?_
  cases hi:p_ i nt with
  |true=>rw[l_]at hi;exact h.set d.1 hi
  |false=>
   have f :¬ i<nt:=λe=>by rw[<-l_,hi]at e;cases e
   have:vs.setIfInBounds i u=vs:=by
    apply n_
    simp only[Array.toList_setIfInBounds]
    exact List.set_eq_of_length_le (by rw[Array.length_toList,h.1];omega)
   grind
include hX in
theorem uO{l:Nat}{e:Option Code}{g:AV->AH->R}{s:St}(h:sem (HW X l e g s)):∃H',sem (g (.bool e.isNone) H')/\∀c ρ w b N,Rel c ρ s.H w->ρ l=a_ (b,N)->∃w',(Instr.endRound b e).run P w= .ok (.bool e.isNone) w'/\Rel c ρ H' w':=by
 unfold HW at h
 split at h
 ·rename_i q r t nt u as v df hl
  refine⟨_,h,λc ρ w b N i j=>?_⟩
  have f:=i.dF l
  rw[hl,j]at f
  obtain⟨x,y,d,a,fn,vs,e1,n,o,m⟩:=f
  cases e1
  refine⟨_,run_endRound e m,i.fC _ (by rw[hl];rfl) j (λk p=>World.putObj_heap_other p) World.putObj_size A A A ?_⟩
  exact⟨b,N,d,a,fn,vs,rfl,n,o,World.putObj_heap_same (Array.getElem?_eq_some_iff.1 m).1⟩
 ·exact zR
include hX in
theorem vJ{rec:kf R}(C:Yd P I sem rec):Ke P I sem (roundOf X rec):=by
 intro l args H kn h
 unfold roundOf at h
 split at h
 ·rename_i st pd t nt J as bd df hl
  split at h
  ·rename_i L
   obtain⟨e,D,h2⟩:=C _ _ _ _ h
   cases e with
   |n s1=>
    simp only[aQ.sem]at D
    split at D
    ·rename_i Q t1 Y S T U Z V
     obtain⟨e2,W,h4⟩:=C _ _ _ _ D
     have fin:∃a H',sem (kn a H')/\∀c ρ b N,ρ l=a_ (b,N)->∀x a2 m,e2.post c ρ x a2 m->roundPost P b ((CO.ret a H').post c ρ) x a2 m:=by
      cases e2 with
      |n s=>
       obtain⟨H',k1,k2⟩:=uO (P:=P) hX W
       refine⟨_,H',k1,λc ρ b N o x a2 m j=>?_⟩
       cases x with
       |normal=>
        obtain⟨ρ',hx,u⟩:=j
        obtain⟨w',f1,E⟩:=k2 c ρ' m b N u.heap (hx _ _ o)
        exact⟨_,w',f1,ρ',hx,E,zB⟩
       |_=>exact j.elim
      |r s=>
       obtain⟨H',k1,k2⟩:=uO (P:=P) hX W
       refine⟨_,H',k1,λc ρ b N o x a2 m j=>?_⟩
       cases x with
       |ret=>
        obtain⟨ρ',hx,u⟩:=j
        obtain⟨w',f1,E⟩:=k2 c ρ' m b N u.heap (hx _ _ o)
        exact⟨_,w',f1,ρ',hx,E,zB⟩
       |_=>exact j.elim
      |x i s=>
       obtain⟨H',k1,k2⟩:=uO (P:=P) hX W
       refine⟨_,H',k1,λc ρ b N o x a2 m j=>?_⟩
       cases x with
       |exit id=>
        obtain⟨rfl,ρ',hx,u⟩:=j
        obtain⟨w',f1,E⟩:=k2 c ρ' m b N u.heap (hx _ _ o)
        exact⟨_,w',f1,ρ',hx,E,zB⟩
       |_=>exact j.elim
      |g i s=>
       obtain⟨H',k1,k2⟩:=uO (P:=P) hX W
       refine⟨_,H',k1,λc ρ b N o x a2 m j=>?_⟩
       cases x with
       |goto id=>
        obtain⟨rfl,ρ',hx,u⟩:=j
        obtain⟨w',f1,E⟩:=k2 c ρ' m b N u.heap (hx _ _ o)
        exact⟨_,w',f1,ρ',hx,E,zB⟩
       |_=>exact j.elim
      |p v s=>exact absurd W hX.fail
     obtain⟨a,H',k1,k2⟩:=fin
     refine⟨a,H',k1,λc ρ w vs b N hG hv u o=>?_⟩
     have G:=u.dF l
     rw[hl,o]at G
     obtain⟨b',N',d,f,fn,us,f1,E,f3,f4⟩:=G
     cases f1
     have ad:vs.toArray.size=J.toArray.size:=by simp[<-hv.length_eq,L]
     refine⟨_,_,_,_,run_yield f4 ad,λn=>roundIn_of_wpIn (F:=WF j_) trivial ?_⟩
     have ag:cA c ρ {t:=pj nt t (J.zip args),nt,H,df:=[]} {tmps:=(J.toArray.zip vs.toArray).foldl (λtmps (t,a)=>tmps.setIfInBounds t a) us,defers:=[]} w:=by
      refine⟨?_,u,rfl⟩
      have ak:=hv.length_eq
      have:=rm (J.zip args) (J.zip vs) t us (by rw[z_ O,z_ O]) (by rw[A_ O,A_ O];exact hv) f3
      have e1:(J.toArray.zip vs.toArray).foldl (λtmps (x:Nat×Value)=>tmps.setIfInBounds x.1 x.2) us=(J.zip vs).foldl (λtmps p=>tmps.setIfInBounds p.1 p.2) us:=by
       rw[<-Array.foldl_toList];simp
      rw[<-e1]at this
      exact this
     refine wpIn_mono (h2 (a_ b) n c ρ _ w (λh=>zE) hG ag) λx a1 w1 j=>?_
     cases x with
     |normal=>
      obtain⟨K,y,B⟩:=j
      have q:=B.heap.dF l
      rw[V,y _ _ o]at q
      obtain⟨b',N',d,f,fn,us,g1,g2,g3,g4⟩:=q
      cases g1
      refine⟨_,run_beginRound g4 A,?_⟩
      have ai:Rel c K (s1.H.set l (.loop .busy Q t1 Y S T U Z)) (w1.putObj b (.loop {state:=.busy,pending:=Q,fn:=fn,tmps:=us,params:=S.toArray,assign:=T,body:=U,defers:=d})):=by
       refine B.heap.fC _ (by rw[V];rfl) (y _ _ o) (λk hk=>World.putObj_heap_other hk) World.putObj_size A A A ?_
       exact⟨b,N,d,f,fn,us,rfl,g2,g3,World.putObj_heap_same (Array.getElem?_eq_some_iff.1 g4).1⟩
      refine wpIn_mono (h4 (a_ b) n c K a1 _ (λh=>zE) hG ⟨B.tmp,ai,B.df⟩) λx a2 m j=>?_
      have:=k2 c K b N (y _ _ o) x a2 m j
      exact vI this λe w' hq=>CO.gO y hq
     |_=>exact j.elim
    ·exact absurd D hX.fail
   |r s=>exact absurd D hX.fail
   |x i s=>exact absurd D hX.fail
   |g i s=>exact absurd D hX.fail
   |p v s=>exact absurd D hX.fail
  ·exact zR
 ·exact zR
end
end
section
section
variable {R:Type} {X:RI R} {sem:R->Prop} (hX:X.Ok sem) {I:ba} {P:Program} (hI:I.Ok P)
theorem KO{k s b}(h:sem (mA X k s b))(hX:X.Ok sem):∃e:aQ,e.sem sem k/\
  ∀ro n c ρ a w,cA c ρ s a w->(match b with|none=>e.post c ρ .normal a w|some j=>j.wpIn (WF ro) n P (e.post c ρ) a w):=by
 unfold mA at h
 split at h
 ·exact⟨.n s,h,λro n c ρ a w d=>⟨ρ,Ext.refl ρ,d⟩⟩
 ·exact⟨.r s,h,λro n c ρ a w d=>wpIn_ret ⟨ρ,Ext.refl ρ,d⟩⟩
 ·rename_i i
  exact⟨.x i s,h,λro n c ρ a w d=>wpIn_exit ⟨rfl,ρ,Ext.refl ρ,d⟩⟩
 ·rename_i i
  exact⟨.g i s,h,λro n c ρ a w d=>wpIn_goto ⟨rfl,ρ,Ext.refl ρ,d⟩⟩
 ·exact zR
include hX hI in
theorem D5{Γ:FuncId->Option (Spec R)}(b7:rl P I sem Γ){Λ:gy R}(bR:eR P I sem Λ){dr:ot R}(b8:ou P I sem dr){rec:kf R}(Q:Yd P I sem rec):Yd P I sem (Sl X I Γ Λ dr rec):=by
 intro ir t s k h
 have W:gN P I sem (nB X I Γ rec):=VU hX hI b7 Q
 have Y:Ke P I sem (roundOf X rec):=vJ hX Q
 have ag:∀{t1 t2:Task}{s:St},sem (rec ir t1 s {k with n:=λs'=>rec ir t2 s' k})->
   ∃e:aQ,e.sem sem k/\∀ro n c ρ a w,(ir=false->ro=j_)->c.G=I.G->cA c ρ s a w->fG (WF ro) n P t1 (Exit.then (fG (WF ro) n P t2 (e.post c ρ)) (e.post c ρ)) a w:=by
  intro t1 t2 s h
  obtain⟨e1,K,L⟩:=Q _ _ _ _ h
  cases e1 with
  |n s1=>
   obtain⟨e2,h3,h4⟩:=Q _ _ _ _ K
   refine⟨e2,h3,λro n c ρ a w B hG E=>(L ro n c ρ a w B hG E).mono λx a1 U J=>?_⟩
   cases x with
   |normal=>
    obtain⟨T,hx,Z⟩:=J
    exact(h4 ro n c T a1 U B hG Z).mono λx a2 w2 J=>aQ.gO hx J
   |_=>exact J.elim
  |x i s1=>
   refine⟨.x i s1,K,λro n c ρ a w B hG E=>(L ro n c ρ a w B hG E).mono λx a1 U J=>?_⟩
   cases x with
   |exit id=>exact J
   |_=>exact J.elim
  |g i s1=>
   refine⟨.g i s1,K,λro n c ρ a w B hG E=>(L ro n c ρ a w B hG E).mono λx a1 U J=>?_⟩
   cases x with
   |goto id=>exact J
   |_=>exact J.elim
  |r s1=>
   refine⟨.r s1,K,λro n c ρ a w B hG E=>(L ro n c ρ a w B hG E).mono λx a1 U J=>?_⟩
   cases x with
   |ret=>exact J
   |_=>exact J.elim
  |p v s1=>
   refine⟨.p v s1,K,λro n c ρ a w B hG E=>(L ro n c ρ a w B hG E).mono λx a1 U J=>?_⟩
   cases x with
   |panic ch=>exact J
   |_=>exact J.elim
 unfold Sl at h
 split at h
 ·
  rename_i c
  obtain⟨e,K,L⟩:=ag h
  exact⟨e,K,λro n C ρ a w B hG E=>mB _ (.inl A) (L ro n C ρ a w B hG E)⟩
 ·
  rename_i r c
  obtain⟨e1,K,L⟩:=Q _ _ _ _ h
  cases e1 with
  |g l s1=>
   simp only[aQ.sem]at K
   split at K
   ·rename_i r' hf
    have key:∃e2:aQ,e2.sem sem k/\Dj P I ir (.inScope r' c) s1 e2:=by
     split at K
     ·rename_i g hg;exact bR _ _ _ _ hg _ K
     ·exact Q _ _ _ _ K
    obtain⟨e2,h3,h4⟩:=key
    refine⟨e2,h3,λro n C ρ a w B hG E=>iR ((L ro n C ρ a w B hG E).mono λx a1 U J=>?_)⟩
    cases x with
    |goto m=>
     obtain⟨rfl,T,hx,Z⟩:=J
     simp only[mC,hf]
     exact(h4 ro n C T a1 U B hG Z).mono λx a2 w2 J=>aQ.gO hx J
    |_=>exact J.elim
   ·rename_i hf
    refine⟨.g l s1,K,λro n C ρ a w B hG E=>iR ((L ro n C ρ a w B hG E).mono λx a1 U J=>?_)⟩
    cases x with
    |goto m=>
     have ai:=J
     obtain⟨rfl,_⟩:=ai
     simp only[mC,hf]
     exact J
    |_=>exact J.elim
  |n s1=>
   refine⟨.n s1,K,λro n C ρ a w B hG E=>iR ((L ro n C ρ a w B hG E).mono λx a1 U J=>?_)⟩
   cases x<;>first|exact J|exact J.elim
  |x i s1=>
   refine⟨.x i s1,K,λro n C ρ a w B hG E=>iR ((L ro n C ρ a w B hG E).mono λx a1 U J=>?_)⟩
   cases x<;>first|exact J|exact J.elim
  |r s1=>
   refine⟨.r s1,K,λro n C ρ a w B hG E=>iR ((L ro n C ρ a w B hG E).mono λx a1 U J=>?_)⟩
   cases x<;>first|exact J|exact J.elim
  |p v s1=>
   refine⟨.p v s1,K,λro n C ρ a w B hG E=>iR ((L ro n C ρ a w B hG E).mono λx a1 U J=>?_)⟩
   cases x<;>first|exact J|exact J.elim
 ·rename_i c
  split at h
  ·exact⟨.n s,h,λro n C ρ a w B hG E=>wpIn_skip ⟨ρ,Ext.refl ρ,E⟩⟩
  ·rename_i id ops
   obtain⟨e,K,L⟩:=BB hX hI W Y h id
   exact⟨e,K,λro n C ρ a w B hG E=>L ro n C ρ a w hG E⟩
  ·rename_i id ops
   obtain⟨e,K,L⟩:=b8 _ _ W Y _ _ _ h
   exact⟨e,K,λro n C ρ a w B hG E=>L ro n C ρ a w id hG E⟩
  ·obtain⟨e,K,L⟩:=ag h
   exact⟨e,K,λro n C ρ a w B hG E=>wpIn_seq (L ro n C ρ a w B hG E)⟩
  ·rename_i cd x y
   split at h
   ·rename_i b hb
    have hc:=hX.cond _ _ _ h
    have hv:∀C ρ a w,C.G=I.G->cA C ρ s a w->a.eval cd= .bool b:=λC ρ a w hG E=>by
     have:=E.ev hG cd
     rw[hb]at this
     simpa only[VR]using this
    cases b with
    |true=>
     obtain⟨e,K,L⟩:=Q _ _ _ _ (by simpa using hc)
     exact⟨e,K,λro n C ρ a w B hG E=>wpIn_cond_true (hv C ρ a w hG E) (L ro n C ρ a w B hG E)⟩
    |false=>
     obtain⟨e,K,L⟩:=Q _ _ _ _ (by simpa using hc)
     exact⟨e,K,λro n C ρ a w B hG E=>wpIn_cond_false (hv C ρ a w hG E) (L ro n C ρ a w B hG E)⟩
   ·exact zR
  ·rename_i id c
   obtain⟨e1,K,L⟩:=Q _ _ _ _ h
   cases e1 with
   |x i s1=>
    simp only[aQ.sem]at K
    cases hi:f_ i id with
    |true=>
     rw[hi]at K
     have b9:=dE hi
     subst b9
     refine⟨.n s1,K,λro n C ρ a w B hG E=>wpIn_block (wpIn_mono (L ro n C ρ a w B hG E) λx a1 U J=>?_)⟩
     cases x with
     |exit j=>
      obtain⟨rfl,J⟩:=J
      simp only[Exit.inBlock,if_true]
      exact J
     |_=>exact J.elim
    |false=>
     rw[hi]at K
     have cc :¬ i=id:=λe=>by subst e;have:f_ i i=true:=ni i;rw[this]at hi;cases hi
     refine⟨.x i s1,K,λro n C ρ a w B hG E=>wpIn_block (wpIn_mono (L ro n C ρ a w B hG E) λx a1 U J=>?_)⟩
     cases x with
     |exit j=>
      have ai:=J
      obtain⟨rfl,_⟩:=ai
      simp only[Exit.inBlock,if_neg cc]
      exact J
     |_=>exact J.elim
   |n s1=>
    refine⟨.n s1,K,λro n C ρ a w B hG E=>wpIn_block (wpIn_mono (L ro n C ρ a w B hG E) λx a1 U J=>?_)⟩
    cases x<;>first|exact J|exact J.elim
   |g i s1=>
    refine⟨.g i s1,K,λro n C ρ a w B hG E=>wpIn_block (wpIn_mono (L ro n C ρ a w B hG E) λx a1 U J=>?_)⟩
    cases x<;>first|exact J|exact J.elim
   |r s1=>
    refine⟨.r s1,K,λro n C ρ a w B hG E=>wpIn_block (wpIn_mono (L ro n C ρ a w B hG E) λx a1 U J=>?_)⟩
    cases x<;>first|exact J|exact J.elim
   |p v s1=>
    refine⟨.p v s1,K,λro n C ρ a w B hG E=>wpIn_block (wpIn_mono (L ro n C ρ a w B hG E) λx a1 U J=>?_)⟩
    cases x<;>first|exact J|exact J.elim
  ·rename_i c
   split at h
   ·rename_i g hg
    exact bR _ _ _ _ hg _ h
   ·obtain⟨e,K,L⟩:=ag h
    exact⟨e,K,λro n C ρ a w B hG E=>mB _ (.inr A) (L ro n C ρ a w B hG E)⟩
  ·rename_i f ps as bd
   split at h
   ·rename_i g first b0 cf
    split at h
    ·rename_i hg
     obtain⟨⟨cg,ng,rg⟩,ak⟩:=Option.isSome_iff_exists.1 hg
     obtain⟨dk,dj,dn,_,_,ap⟩:=hI.body g cg ng rg ak
     have enter:=ap
     obtain⟨o,K,L⟩:=W _ _ _ _ _ h
     have cm:∀C ρ (a:Act) w,cA C ρ s a w->∀fn,∃O b N D q w2,Ext ρ O/\O (s.H.n+1)=a_ (b,N)/\O s.H.n=a_ (D,q)/\
       Rel C O ((s.H.new .tE).new (.loop .ready j_ s.t s.nt ps.toList as bd s.H.n)) w2/\
       (Instr.enterLoop fn a.tmps ps as bd j_).run P w= .ok (b,[{target:=.collected D,args := #[]}]) w2:=by
      intro C ρ a w E fn
      obtain⟨b1,Z⟩:=E.heap.new (.deferred (a_ [])) 0 .tE λw' a6=>⟨_,_,rfl,a6⟩
      obtain⟨S,V⟩:=Z.new (.loop {state:=.ready,pending:=j_,fn:=fn,tmps:=a.tmps,params:=ps,assign:=as,body:=bd,defers:=w.heap.size}) 0 (.loop .ready j_ s.t s.nt ps.toList as bd s.H.n) λw' a6=>by
       refine⟨_,_,w.heap.size,0,fn,a.tmps,rfl,?_,E.tmp.ext (b1.trans (Env.nk _ (Z.top _ (dw _)))),by simpa using a6⟩
       rw[Env.ec _ _ zA]
       exact Env.cP _ _ _
      refine⟨_,_,0,w.heap.size,0,_,b1.trans S,Env.cP _ _ _,?_,V,?_⟩
      ·rw[Env.ec _ _ zA]
       exact Env.cP _ _ _
      ·rw[run_enterLoop_outer]
       simp only[World.alloc,Array.size_push]
     have b2:∀e:aQ,(∀n C ρ (a:Act) (U:World) T d N D q en,C.G=I.G->Ext ρ T->T (s.H.n+1)=a_ (d,N)->T s.H.n=a_ (D,q)->uw T s.t s.nt a.tmps->Gh T s.df a.defers->
       o.post C T en U->rangePost (WF j_) n P d (e.post C ρ) {a with defers:=[{target:=.collected D,args := #[]}]++a.defers} en U)->
       ∀ro n C ρ a w,ro=j_->C.G=I.G->cA C ρ s a w->(Code.rangeFunc f ps as bd).wpIn (WF ro) n P (e.post C ρ) a w:=by
      intro e a7 ro n C ρ a w B hG E
      subst B
      refine wpIn_rangeFunc λfn _=>?_
      obtain⟨O,b,N,D,q,w2,hx,hb,hD,V,b3⟩:=cm C ρ a w E fn
      have hv:=E.ev hG f
      rw[cf]at hv
      simp only[VR]at hv
      obtain⟨us,vs,cn,cp,cr⟩:=hv
      have a8:aU O (first++ .yield (s.H.n+1)::b0) (us++ .func (.yield b) #[] #[]::vs):=
       (aU.ext hx _ _ cp).append (aU.aL.2 ⟨by simp only[VR];exact⟨b,N,hb,rfl⟩,aU.ext hx _ _ cr⟩)
      have e1:us.toArray++ #[Value.func (.yield b) #[] #[]]++vs.toArray=(us++ .func (.yield b) #[] #[]::vs).toArray:=by apply n_;simp
      refine⟨b,_,w2,{target:=.fn (.func g) vs.toArray,args:=us.toArray++ #[.func (.yield b) #[] #[]]},w2,g,(us++ .func (.yield b) #[] #[]::vs).toArray,w2,b3,?_,λ_ _=>trivial,?_,λhh=>by simp[WF,Fence.wide]at hh,?_⟩
      ·have e2:Array.map a.eval #[Operand.const (Value.func (Fn.yield b) #[] #[])]= #[Value.func (.yield b) #[] #[]]:=by simp[Act.eval]
       simp only[resolve,cn,Deferred.ofValue,Sem.run_pure,e2]
      ·simp only[invoke,e1,enter]
      ·rcases L C O w2 _ hG a8 V with⟨_,k2⟩|⟨v,w',k1,_⟩
       ·refine CallsIn.mono (F:=WF j_) (R:=o.post C O) ?_ λen w' J=>?_
        ·have b4:CallsIn Fence.wide (n-1) P g (us++ .func (.yield b) #[] #[]::vs).toArray w2 (o.post C O):=callsIn_wide.2 k2
         exact b4
        ·exact a7 n C ρ a w' O b N D q en hG hx hb hD (E.tmp.ext hx) (E.df.ext hx) J
       ·rw[enter]at k1;cases k1
     cases o with
     |ret v H'=>
      simp only[CO.sem]at K
      have done:∀pd (st:LoopState) t nt bc bs bK b5,H'.get (s.H.n+1)= .loop st pd t nt bc bs bK b5->st≠ .busy->sem (mA X k {s with H:=H'.set (s.H.n+1) .dead,df:=s.H.n::s.df} pd)->
        ∃e:aQ,e.sem sem k/\∀ro n C ρ a w,(false=false->ro=j_)->C.G=I.G->cA C ρ s a w->fG (WF ro) n P (.code (.rangeFunc f ps as bd)) (e.post C ρ) a w:=by
       intro pd st t nt bc bs bK b5 hl cv K
       obtain⟨e,h3,h4⟩:=KO (P:=P) K hX
       refine⟨e,h3,λro n C ρ a w B hG E=>b2 e (λn C ρ a U T d N D q en hG hx hd hD ht bN J=>?_) ro n C ρ a w (B A) hG E⟩
       cases en with
       |returned u=>
        obtain⟨O,S,V,hv⟩:=J
        have ad:=V.dF (s.H.n+1)
        rw[hl,S _ _ hd]at ad
        obtain⟨b',N',dd,MM,fn,us,g1,g2,g3,g4⟩:=ad
        cases g1
        have b6:=run_endLoop (P:=P) g4 cv
        have cz:Rel C O (H'.set (s.H.n+1) .dead) (U.putObj d (.loop {state:=.exhausted,pending:=pd,fn:=fn,tmps:=us,params:=bc.toArray,assign:=bs,body:=bK,defers:=dd})):=
         V.fC .dead (by rw[hl];rfl) (S _ _ hd) (λk hk=>World.putObj_heap_other hk) World.putObj_size A A A trivial
        have c6:cA C O {s with H:=H'.set (s.H.n+1) .dead,df:=s.H.n::s.df} {a with defers:=[{target:=.collected D,args := #[]}]++a.defers} _ :=
         ⟨ht.ext S,cz,D,q,a.defers,S _ _ hD,rfl,bN.ext S⟩
        refine⟨pd,_,b6,?_⟩
        have:=h4 j_ n C O _ _ c6
        cases pd with
        |none=>exact aQ.gO (hx.trans S) this
        |some j=>exact wpIn_mono this λx a w J=>aQ.gO (hx.trans S) J
       |panicked ch=>exact J.elim
       |outgrown=>exact J.elim
      split at K
      ·rename_i hl
       exact done _ _ _ _ _ _ _ _ hl zA K
      ·rename_i hl
       exact done _ _ _ _ _ _ _ _ hl zA K
      ·exact absurd K hX.fail
     |qt v H'=>
      refine⟨.p v {s with H:=H',df:=s.H.n::s.df},K,λro n C ρ a w B hG E=>b2 _ (λn C ρ a U T d N D q en hG hx hd hD ht bN J=>?_) ro n C ρ a w (B A) hG E⟩
      cases en with
      |panicked ch=>
       obtain⟨O,u,rfl,S,V,hv⟩:=J
       exact⟨O,u,rfl,hx.trans S,⟨ht.ext S,V,D,q,a.defers,S _ _ hD,rfl,bN.ext S⟩,hv⟩
      |returned u=>exact J.elim
      |outgrown=>exact J.elim
    ·exact zR
   ·exact zR
  ·rename_i id
   exact⟨.x id s,h,λro n C ρ a w B hG E=>wpIn_exit ⟨rfl,ρ,Ext.refl ρ,E⟩⟩
  ·rename_i c
   obtain⟨e,K,L⟩:=Q _ _ _ _ h
   exact⟨e,K,λro n C ρ a w B hG E=>KN (L ro n C ρ a w B hG E)⟩
  ·exact⟨.n s,h,λro n C ρ a w B hG E=>wpIn_label ⟨ρ,Ext.refl ρ,E⟩⟩
  ·rename_i l
   exact⟨.g l s,h,λro n C ρ a w B hG E=>wpIn_goto ⟨rfl,ρ,Ext.refl ρ,E⟩⟩
  ·exact⟨.r s,h,λro n C ρ a w B hG E=>wpIn_ret ⟨ρ,Ext.refl ρ,E⟩⟩
  ·exact zR
include hX hI in
theorem D6{d:FuncId->Option (Spec R)}(a:rl P I sem d){e:gy R}(b:eR P I sem e){f:ot R}(c:ou P I sem f):∀fuel,Yd P I sem (run X I d e f fuel)
 |0=>λ_ _ _ _ h=>zR
 |fuel+1=>D5 hX hI a b c (D6 a b c fuel)
end
end
mutual
def AV.bD(σ:Nat->Nat):AV->AV
 | .ptr l k e j=> .ptr (σ l) k e j
 | .slice l b k len cap e=> .slice (σ l) b k len cap e
 | .own l len e=> .own (σ l) len e
 | .map (a_ l)=> .map (a_ (σ l))
 | .fn f a b=> .fn f (bt.bD σ a) (bt.bD σ b)
 | .yield l=> .yield (σ l)
 | .iface t a=> .iface t (a.bD σ)
 | .agg cs=> .agg (bt.bD σ cs)
 | .qP cs=> .qP (bt.bD σ cs)
 | .bool b=> .bool b
 | .int k n=> .int k n
 | .str s=> .str s
 | .nilPtr=> .nilPtr
 | .aw=> .aw
 | .map j_=> .map j_
 | .aB=> .aB
 | .nilIface=> .nilIface
 | .any=> .any
 | .fc cs j=> .fc cs j
 | .ab len e f=> .ab len e f
 | .addr b j=> .addr b j
def bt.bD(σ:Nat->Nat):List AV->List AV
 |[]=>[]
 |a::as=>a.bD σ::bt.bD σ as
end
structure uy (σ:Nat->Nat) (ρ ρ':Env):Prop where
 Pa:∀l x,ρ l=a_ x->ρ' (σ l)=a_ x
 fz:∀b vs,ρ.fz b=a_ vs->ρ'.fz b=a_ vs
instance {σ:Nat->Nat}{ρ ρ':Env}:CoeFun (uy σ ρ ρ') (λ_=> ∀l x,ρ l=a_ x->ρ' (σ l)=a_ x):=⟨uy.Pa⟩
def uy.bare{σ ρ ρ'}(h:uy σ ρ ρ'):Ext ρ.bare ρ'.bare:=⟨λ_ _ e=>zG,h.fz⟩
mutual
def VR.bD{σ:Nat->Nat}{ρ ρ':Env}(h:uy σ ρ ρ'):∀(a:AV)(v:Value),VR ρ a v->VR ρ' (a.bD σ) v
 | .bool _,_,k=>zD
 | .int _ _,_,k=>zD
 | .str _,_,k=>zD
 | .nilPtr,_,k=>zD
 | .ptr l _ _ _,v,k=>by
  simp only[VR,AV.bD]at k⊢
  obtain⟨b,N,e,r⟩:=k
  exact⟨b,N,h _ _ e,r⟩
 | .slice l _ _ _ _ _,v,k=>by
  simp only[VR,AV.bD]at k⊢
  obtain⟨b,N,c,a,e,r⟩:=k
  exact⟨b,N,c,a,h _ _ e,r⟩
 | .aw,_,k=>zD
 | .own l len e,v,k=>by
  simp only[VR,AV.bD]at k⊢
  rcases k with k|⟨b,N,c,e,r⟩
  ·exact .inl k
  ·exact .inr ⟨b,N,c,h _ _ e,r⟩
 | .map j_,_,k=>zD
 | .map (a_ l),v,k=>by
  simp only[VR,AV.bD]at k⊢
  obtain⟨b,N,e,r⟩:=k
  exact⟨b,N,h _ _ e,r⟩
 | .fn f first m,v,k=>by
  simp only[VR,AV.bD]at k⊢
  obtain⟨us,vs,e,r,s⟩:=k
  exact⟨us,vs,e,aU.bD h first us r,aU.bD h m vs s⟩
 | .yield l,v,k=>by
  simp only[VR,AV.bD]at k⊢
  obtain⟨b,N,e,r⟩:=k
  exact⟨b,N,h _ _ e,r⟩
 | .aB,_,k=>zD
 | .addr _ _,_,k=>zD
 | .nilIface,_,k=>zD
 | .iface t a,v,k=>by
  simp only[VR,AV.bD]at k⊢
  obtain⟨u,e,r⟩:=k
  exact⟨u,e,VR.bD h a u r⟩
 | .agg cs,v,k=>by
  simp only[VR,AV.bD]at k⊢
  obtain⟨vs,e,r⟩:=k
  exact⟨vs,e,aU.bD h cs vs r⟩
 | .qP cs,v,k=>by
  simp only[VR,AV.bD]at k⊢
  obtain⟨vs,e,r⟩:=k
  exact⟨vs,e,aU.bD h cs vs r⟩
 | .any,_,_=>by simp only[VR,AV.bD]
 | .fc cs j,v,hk=>by
  simp only[VR,AV.bD]at hk⊢
  obtain⟨b,q,vs,o,w,d⟩:=hk
  exact⟨b,q,vs,o,w.mono h.fz,aU.ext h.bare _ _ d⟩
 | .ab len e f,v,hk=>by
  simp only[VR,AV.bD]at hk⊢
  rcases hk with hk|⟨b,q,c,a,y,o,w,d⟩
  ·exact .inl hk
  ·exact .inr ⟨b,q,c,a,y,o,w,λhl=>⟨(d hl).1,(d hl).2.1.mono h.fz,λi hi=>⟨((d hl).2.2 i hi).1,aU.ext h.bare _ _ ((d hl).2.2 i hi).2⟩⟩⟩
def aU.bD{σ:Nat->Nat}{ρ ρ':Env}(h:uy σ ρ ρ'):∀(as:List AV)(vs:List Value),aU ρ as vs->aU ρ' (bt.bD σ as) vs
 |[],_,k=>by simpa only[aU,bt.bD]using k
 |a::as,vs,k=>by
  simp only[aU,bt.bD]at k⊢
  obtain⟨u,us,e,r,s⟩:=k
  exact⟨u,us,e,VR.bD h a u r,aU.bD h as us s⟩
end
def bt.SF(σ):∀as,bt.bD σ as=as.map (AV.bD σ)
 |[]=>by simp[bt.bD]
 |a::as=>by simp[bt.bD,bt.SF σ as]
def Tr.map{α a:Type}(f:α->a):Tr α->Tr a
 | .e=> .e
 | .n l v r=> .n (l.map f) (match v with|some x=>a_ (f x)|none=>j_) (r.map f)
def Tr.get_map{α a}(f:α->a):∀(t:Tr α)(i),(t.map f).get i=(t.get i).map f
 | .e,i=>rfl
 | .n l v r,i=>by
  simp only[Tr.map,Tr.get]
  cases f_ i 0
  ·cases f_ (i%2) 1
   ·simp only[cond_false];exact Tr.get_map f r _
   ·simp only[cond_true,cond_false];exact Tr.get_map f l _
  ·cases v<;>rfl
def eT.bD(σ:Nat->Nat):eT->eT
 | .cells cs rw=> .cells (bt.bD σ cs) rw
 | .rows n e f rw=> .rows n e (λi=>bt.bD σ (f i)) rw
 | .str s rw=> .str s rw
 | .map es=> .map (es.map λx=>(x.1.bD σ,x.2.bD σ))
 | .loop a b t nt c as d df=> .loop a b (t.map (AV.bD σ)) nt c as d (σ df)
 | .tE=> .tE
 | .iter l=> .iter (σ l)
 | .iy n K=> .iy n K
 | .dX l since S=> .dX (σ l) since S
 | .cT n K Q foc=> .cT n K (λi=>(Q i).bD σ) (foc.map λx=>(x.1,x.2.bD σ))
 | .dead=> .dead
def qu(σ)(es):dL (es.map λx=>(x.1.bD σ,x.2.bD σ))=dL es:=by
 cases es with
 |nil=>rfl
 |cons e es=>
  obtain⟨a,b⟩:=e
  cases a<;>first|rfl|(rename_i x;cases x<;>rfl)
def qv(σ)(es):gK (es.map λx=>(x.1.bD σ,x.2.bD σ))=(gK es).map λx=>(x.1.bD σ,x.2.bD σ):=by
 cases es with
 |nil=>rfl
 |cons e es=>
  obtain⟨a,b⟩:=e
  cases a<;>first|rfl|(rename_i x;cases x<;>rfl)
def eT.qw(σ)(b:eT):(b.bD σ).rw=b.rw:=by
 cases b with
 |map es=>show(!dL (es.map λx=>(x.1.bD σ,x.2.bD σ)))=!dL es;rw[qu]
 |_=>rfl
def eT.KP{σ}{b:eT}:b.bD σ= .dead↔b= .dead:=by cases b<;>simp[eT.bD]
def aJ.bD{σ:Nat->Nat}{ρ ρ':Env}(h:uy σ ρ ρ'){w:World}{o:Option (Nat×Nat)}{cs:List AV}{rw:Access}(k:aJ ρ w o cs rw):aJ ρ' w o (bt.bD σ cs) rw:=by
 rcases k with⟨rfl,k⟩|⟨b,N,vs,rest,el,fr,h1,c,d,f,a⟩
 ·exact .inl ⟨by simp[bt.bD],k⟩
 ·exact .inr ⟨b,N,vs,rest,el,fr,h1,c,d,aU.bD h _ _ f,a.1,a.2.1,λe=>h.fz _ _ (a.2.2 e)⟩
def pZ(σ)(s):bt.bD σ (byteCells s)=byteCells s:=by
 rw[bt.SF];simp[byteCells,AV.bD,m_]
def bp.bD{σ:Nat->Nat}{ρ ρ':Env}(h:uy σ ρ ρ'){w:World}{o:Option (Nat×Nat)}{b:eT}(k:bp ρ w o b):bp ρ' w o (b.bD σ):=by
 cases b with
 |cells cs rw=>exact aJ.bD h k
 |rows n e f rw=>
  refine⟨λi hi=>by simp only[bt.SF,List.length_map];exact k.1 i hi,?_⟩
  have:=aJ.bD h k.2
  have e1:bt.bD σ (rowsOf n f)=rowsOf n (λi=>bt.bD σ (f i)):=by
   simp only[bt.SF,rowsOf,List.map_flatMap]
  grind
 |str s rw=>have:=aJ.bD h (cs:=byteCells s) k;rw[pZ]at this;exact this
 |map es=>
  obtain⟨b,N,ms,B,v,y,⟨D,q,C,E,F⟩,G⟩:=k
  refine⟨b,N,ms,B,v,y,⟨D,?_,?_,by rw[qu];exact E,F⟩,λe=>G (by simpa using e)⟩
  ·have:=aU.bD h _ _ q
   rw[qv]
   simpa [bt.SF,m_]using this
  ·have:=aU.bD h _ _ C
   rw[qv]
   simpa [bt.SF,m_]using this
 |loop H I t nt J as L df=>
  obtain⟨b,N,d,c,fn,vs,v,y,q,C⟩:=k
  refine⟨b,N,d,c,fn,vs,v,h _ _ y,⟨q.1,λi=>?_⟩,C⟩
  have:=VR.bD h _ _ (q.2 i)
  unfold cR at this⊢
  rw[Tr.get_map]
  cases ht:t.get i with
  |none=>simp[VR]
  |some a=>rw[ht]at this;simpa using this
 |tE=>exact k
 |iter l=>
  obtain⟨b,N,m,c,since,last,v,y,q⟩:=k
  exact⟨b,N,m,c,since,last,v,h _ _ y,q⟩
 |iy n K=>exact k
 |dX l since S=>
  obtain⟨b,N,m,c,v,y,q⟩:=k
  exact⟨b,N,m,c,v,h _ _ y,q⟩
 |cT n K Q foc=>
  obtain⟨b,N,u,v,y,q,C⟩:=k
  refine⟨b,N,u,v,y,λi hi=>VR.bD h _ _ (q i hi),λj a e=>?_⟩
  cases foc with
  |none=>cases e
  |some x=>cases e;exact⟨(C _ _ A).1,VR.bD h _ _ (C _ _ A).2⟩
 |dead=>trivial
def AH.blank(N:Nat):AH:={n:=N,t:=.e}
def AH.up(H:AH)(N:Nat):AH:={n:=N,t:=H.t}
def Rel.up{c ρ H w}(h:Rel c ρ H w){N}(a:H.n<=N):Rel c ρ (H.up N) w :=
 ⟨h.dF,h.sep,h.gL,h.gH,h.size,h.os,h.output,h.tape,λl hl=>h.top l (u_ a hl),h.fp,h.hid,λl hl=>⟨y_ (h.env l hl).1 a,(h.env l hl).2⟩,λl hl=>h.low l (u_ a hl),h.qY,h.pV,h.xw,h.qZ⟩
def fw.blank(c:fw)(ρ:Env)(H:AH)(w:World)(N:Nat):fw:=c.xN ρ (H.up N) w λ_=>True
def Rel.blank{c ρ H w}(h:Rel c ρ H w){N}(a:H.n<=N):Rel (c.blank ρ H w N) ρ (.blank N) w :=
 (h.up a).xN (HM:=.blank N) A λ_=> .inl ⟨trivial,rfl⟩
def Rel.Th{c ρ ρ' H H' w w'}(h:Rel c ρ H w){N}(f:H.n<=N)(d:Rel (c.blank ρ H w N) ρ' H' w')(hn:H'.n=N):Ext ρ ρ'/\Rel c ρ' H w':=by
 obtain⟨i,a⟩:=(h.up f).KH (H2:=H.up N) d hn.symm zA
 refine⟨i,⟨a.dF,a.sep,a.gL,a.gH,a.size,a.os,a.output,a.tape,λl hl=>?_,a.fp,a.hid,λl hl=>?_,h.low,a.qY,a.pV,a.xw,a.qZ⟩⟩
 ·by_cases b:l<N
  ·rw[(d.env l b).2];exact h.top l hl
  ·exact a.top l (C_ b)
 ·obtain⟨e1,j⟩:=h.env l hl
  exact⟨e1,(a.env l hl).2⟩
def kw(N ℓ:Nat)(i:Nat):Nat:=bif f_ i N then ℓ else i
def D7(N ℓ):kw N ℓ N=ℓ:=by simp[kw]
def KQ{N ℓ i}(h:i≠N):kw N ℓ i=i:=by
 have:f_ i N=false:=by rw[c_];intro e;exact ZD
 simp[kw,this]
def Rel.Ti{c:fw}{ρ ρ':Env}{H H':AH}{w w':World}(h:Rel c ρ H w){N:Nat}(hN:H.n<=N)(o:Rel (c.blank ρ H w N) ρ' H' w')(hn:H'.n=N+1){ℓ:Nat}(hℓ:ℓ<H.n)(R:H.get ℓ= .dead)(T:ρ ℓ=j_)(U :¬ c.E ℓ):
  ∃j,(∀l,l≠ℓ->j l=ρ l)/\Ext ρ j/\uy (kw N ℓ) ρ' j/\Rel c j (H.set ℓ ((H'.get N).bD (kw N ℓ))) w':=by
 have zz:∀{b:eT},b.rw=true->b≠ .dead:=λh e=>by rw[e]at h;cases h
 obtain⟨j,u⟩:∃j:Env,j=⟨λi=>if i=ℓ then ρ' N else ρ i,ρ'.fz⟩:=⟨_,rfl⟩
 have s:j.fz=ρ'.fz:=by rw[u]
 have q:j ℓ=ρ' N:=by rw[u];simp
 have off:∀l,l≠ℓ->j l=ρ l:=ZD
 have hx:Ext ρ j:=by
  refine⟨λl x e=>?_,λk vs e=>by rw[s];exact o.qZ k vs e⟩
  have:l≠ℓ:=λI=>Y
  rw[off l this];exact e
 have v:uy (kw N ℓ) ρ' j:=by
  refine⟨λl x e=>?_,ZD⟩
  by_cases f:l=N
  ·subst f;rw[D7,q];exact e
  ·rw[KQ f]
   have L:l<N:=by
    refine Nat.lt_of_not_le λV=>?_
    have:ρ' l=j_:=o.top l O
    rw[this]at e;cases e
   have S:=(o.env l L).2
   have:l≠ℓ:=λI=>by
    subst I
    rw[S]at e
    change ρ l=a_ x at e
    rw[T]at e;cases e
   rw[off l this,<-e]
   exact S.symm
 have y:∀l r a,H.get l≠ .dead->ρ l=a_ (r,a)->(c.blank ρ H w N).Z r∨(c.blank ρ H w N).X r:=λl r a R f=>by
  cases d:(H.get l).rw with
  |true=>exact .inr (.inr ⟨l,a,trivial,d,f⟩)
  |false=>exact .inl (.inr ⟨l,a,trivial,R,d,f⟩)
 have B:∀l,l≠ℓ->(H.set ℓ ((H'.get N).bD (kw N ℓ))).get l=H.get l:=λl hl=>D_ _ _ (λe=>hl e.symm)
 have gs:(H.set ℓ ((H'.get N).bD (kw N ℓ))).get ℓ=(H'.get N).bD (kw N ℓ):=i_ _ _ _
 have P:w.heap.size<=w'.heap.size:=o.size
 refine⟨j,off,hx,v,λl=>?_,λl C r a Q J d f D=>?_,λl r a d f t=>?_,λk K=>?_,u_ h.size P,o.os.trans h.os,o.output.trans h.output,o.tape.trans h.tape,λl hl=>?_,λg W=>?_,λl r a m f t=>?_,λl hl=>?_,λl hl=>?_,λk vs e=>o.qY k vs (by rw[<-s];exact e),λl r a d f=>?_,λk K=>by rw[s];exact o.xw k (.inl K),λk vs e=>by rw[s];exact o.qZ k vs (h.qZ k vs e)⟩
 ·by_cases e:l=ℓ
  ·subst e;rw[gs,q];exact bp.bD v (o.dF N)
  ·rw[B l e,off l e]
   by_cases m:H.get l= .dead
   ·rw[m];trivial
   ·exact bp.world (λr a e=>(o.gH r (y l r a m e)).2) ((h.dF l).ext hx)
 ·by_cases e:l=ℓ
  ·subst e
   have F:C≠l:=λe=>J e.symm
   rw[gs,eT.qw]at d
   rw[q]at f
   rw[off C F]at D
   rw[B C F]
   apply h_
   intro m
   rcases y C r Q m D with t|t
   ·exact o.gL N r a d f t
   ·exact o.hid N r a (zz d) f t
  ·rw[B l e]at d
   rw[off l e]at f
   by_cases I:C=ℓ
   ·subst I
    rw[gs]
    rw[q]at D
    apply h_
    intro m
    exact o.hid N r Q (λe=>m (by rw[e];rfl)) D (.inr ⟨l,a,trivial,d,f⟩)
   ·rw[off C I]at D
    rw[B C I]
    exact h.sep l C r a Q J d f D
 ·by_cases e:l=ℓ
  ·subst e
   rw[gs,eT.qw]at d
   rw[q]at f
   exact o.gL N r a d f (.inl t)
  ·rw[B l e]at d
   rw[off l e]at f
   exact h.gL l r a d f t
 ·obtain⟨f,D⟩:=h.gH k K
  exact⟨f,((o.gH k (K.imp .inl .inl)).2).trans D⟩
 ·have G:H.n<=l:=hl
  rw[off l O];exact h.top l G
 ·obtain⟨a,hM⟩:=h.fp g W
  grind
 ·by_cases e:l=ℓ
  ·subst e
   rw[gs]at m
   rw[q]at f
   exact o.hid N r a (λe=>m (by rw[e];rfl)) f (.inl t)
  ·rw[B l e]at m
   rw[off l e]at f
   exact h.hid l r a m f t
 ·obtain⟨e1,e2⟩:=h.env l hl
  have:l≠ℓ:=λe=>U (e▸hl)
  simp_all
 ·have G:H.n<=l:=hl
  rw[B l O];exact h.low l G
 ·rw[s]
  by_cases e:l=ℓ
  ·subst e
   rw[gs,eT.qw]at d
   rw[q]at f
   exact o.pV N r a d f
  ·rw[B l e]at d
   rw[off l e]at f
   exact o.xw r (.inr ⟨l,a,trivial,d,f⟩)
section
mutual
def AV.beq:AV->AV->Bool
 | .bool a,.bool b=>a==b
 | .int k x,.int v y=>b_ (k=v)&&b_ (x=y)
 | .str s,.str t=>b_ (s=t)
 | .ptr a b c d,.ptr a' h l o=>b_ (a=a')&&b_ (b=h)&&b_ (c=l)&&b_ (d=o)
 | .nilPtr,.nilPtr=>true
 | .slice a b c d e f,.slice a' h l o q m=>b_ (a=a')&&b_ (b=h)&&b_ (c=l)&&b_ (d=o)&&b_ (e=q)&&b_ (f=m)
 | .aw,.aw=>true
 | .own a b c,.own a' h l=>b_ (a=a')&&b_ (b=h)&&b_ (c=l)
 | .map a,.map b=>b_ (a=b)
 | .fn f a b,.fn m a' h=>b_ (f=m)&&bt.beq a a'&&bt.beq b h
 | .yield a,.yield b=>b_ (a=b)
 | .aB,.aB=>true
 | .nilIface,.nilIface=>true
 | .iface t a,.iface w a'=>b_ (t=w)&&a.beq a'
 | .agg a,.agg b=>bt.beq a b
 | .qP a,.qP b=>bt.beq a b
 | .any,.any=>true
 | .fc cs j,.fc u B=>bt.beq cs u&&b_ (j=B)
 | .addr a b,.addr a' h=>b_ (a=a')&&b_ (b=h)
 | .ab n e f,.ab C q m=>b_ (n=C)&&b_ (e=q)&&(e_ n).all λi=>bt.beq (f i) (m i)
 |_,_=>false
def bt.beq:List AV->List AV->Bool
 |[],[]=>true
 |a::as,b::D=>a.beq b&&bt.beq as D
 |_,_=>false
end
mutual
theorem AV.fH{ρ:Env}:∀(a b:AV)(v:Value),a.beq b=true->VR ρ b v->VR ρ a v
 | .fn f x y,b,v,h,d=>by
  cases b<;>simp only[AV.beq,kH,bf,bn]at h
  obtain⟨⟨rfl,m⟩,o⟩:=h
  simp only[VR]at d⊢
  obtain⟨us,vs,rfl,l,s⟩:=d
  exact⟨us,vs,rfl,bt.fH x _ _ m l,bt.fH y _ _ o s⟩
 | .iface t a,b,v,h,d=>by
  cases b<;>simp only[AV.beq,kH,bf,bn]at h
  obtain⟨rfl,m⟩:=h
  simp only[VR]at d⊢
  obtain⟨u,rfl,l⟩:=d
  exact⟨u,rfl,AV.fH a _ _ m l⟩
 | .agg as,b,v,h,d=>by
  cases b<;>simp only[AV.beq,kH]at h
  simp only[VR]at d⊢
  obtain⟨us,rfl,l⟩:=d
  exact⟨us,rfl,bt.fH as _ _ h l⟩
 | .qP as,b,v,h,d=>by
  cases b<;>simp only[AV.beq,kH]at h
  simp only[VR]at d⊢
  obtain⟨us,rfl,l⟩:=d
  exact⟨us,rfl,bt.fH as _ _ h l⟩
 | .fc cs j,b,v,h,d=>by
  cases b<;>simp only[AV.beq,kH,bf,bn]at h
  obtain⟨m,rfl⟩:=h
  simp only[VR]at d⊢
  obtain⟨b,q,vs,rfl,l,s⟩:=d
  exact⟨b,q,vs,rfl,l,bt.fH cs _ _ m s⟩
 | .ab n e f,b,v,h,d=>by
  cases b<;>simp only[AV.beq,kH,bf,bn,List.all_eq_true]at h
  obtain⟨⟨rfl,rfl⟩,m⟩:=h
  simp only[VR]at d⊢
  rcases d with d|⟨b,q,c,a,w,rfl,o,l⟩
  ·exact .inl d
  ·exact .inr ⟨b,q,c,a,w,rfl,o,λhl=>⟨(l hl).1,(l hl).2.1,λi hi=>⟨((l hl).2.2 i hi).1,bt.fH (f i) _ _ (m i (List.mem_range.2 hi)) ((l hl).2.2 i hi).2⟩⟩⟩
 | .addr _ _,b,v,h,d=>by cases b<;>simp only[AV.beq,kH,bf,bn,beq_iff_eq]at h<;>simp_all
 | .bool _,b,v,h,d=>by cases b<;>simp only[AV.beq,kH,bf,bn,beq_iff_eq]at h<;>simp_all
 | .int _ _,b,v,h,d=>by cases b<;>simp only[AV.beq,kH,bf,bn,beq_iff_eq]at h<;>simp_all
 | .str _,b,v,h,d=>by cases b<;>simp only[AV.beq,kH,bf,bn,beq_iff_eq]at h<;>simp_all
 | .ptr _ _ _ _,b,v,h,d=>by cases b<;>simp only[AV.beq,kH,bf,bn,beq_iff_eq]at h<;>simp_all
 | .nilPtr,b,v,h,d=>by cases b<;>simp only[AV.beq,kH,bf,bn,beq_iff_eq]at h<;>simp_all
 | .slice _ _ _ _ _ _,b,v,h,d=>by cases b<;>simp only[AV.beq,kH,bf,bn,beq_iff_eq]at h<;>simp_all
 | .aw,b,v,h,d=>by cases b<;>simp only[AV.beq,kH,bf,bn,beq_iff_eq]at h<;>simp_all
 | .own _ _ _,b,v,h,d=>by cases b<;>simp only[AV.beq,kH,bf,bn,beq_iff_eq]at h<;>simp_all
 | .map _,b,v,h,d=>by cases b<;>simp only[AV.beq,kH,bf,bn,beq_iff_eq]at h<;>simp_all
 | .yield _,b,v,h,d=>by cases b<;>simp only[AV.beq,kH,bf,bn,beq_iff_eq]at h<;>simp_all
 | .aB,b,v,h,d=>by cases b<;>simp only[AV.beq,kH,bf,bn,beq_iff_eq]at h<;>simp_all
 | .nilIface,b,v,h,d=>by cases b<;>simp only[AV.beq,kH,bf,bn,beq_iff_eq]at h<;>simp_all
 | .any,b,v,h,d=>by cases b<;>simp only[AV.beq,kH,bf,bn,beq_iff_eq]at h<;>simp_all
theorem bt.fH{ρ:Env}:∀(a b:List AV)(vs:List Value),bt.beq a b=true->aU ρ b vs->aU ρ a vs
 |[],[],_,_,h=>h
 |a::as,b::B,vs,h,d=>by
  simp only[bt.beq,bf]at h
  simp only[aU]at d⊢
  obtain⟨u,us,rfl,m,o⟩:=d
  exact⟨u,us,rfl,AV.fH _ _ _ h.1 m,bt.fH _ _ _ h.2 o⟩
 |[],_::_,_,h,_=>by simp[bt.beq]at h
 |_::_,[],_,h,_=>by simp[bt.beq]at h
end
section
variable {R:Type} (X:RI R) (I:ba)
def Vw(o:Oper)(ev:Operand->AV)(H:AH)(K:AV->R):R :=
 match o.op with
 | .load t a=>yf X I t H (ev a) K
 | .slice t x lo hi mx=>PH X I t (ev x) (lo.map ev) (hi.map ev) (mx.map ev) H K
 | .lookup t x i ok=>q9 X I t (ev x) (ev i) ok H K
 | .convert s d x=>match I.dI s,I.dI d with
  |some (.slice e),a_ .string=>PI X I e (ev x) H K
  |_,_=>X.fail
 | .call {callee:=.builtin .len,args,argTypes}=>match args.toList,argTypes.toList with
  |[x],[t]=>Pg X I t (ev x) H K
  |_,_=>X.fail
 |_=>X.fail
def eE(P:Program)(o:Oper)(ev:Operand->AV)(a:AH)(v:AV):Prop :=
 (∀c,o.op≠ .defer c)/\∀c ρ w (e:Operand->Value),(∀x,VR ρ (ev x) (e x))->Rel c ρ a w->∃u,(execOp e o).run P w= .ok (.value u) w/\VR ρ v u
inductive YN where
 |gz|reader|vK
def Vx(o:Oper):YN :=
 match o.op with
 | .load .. | .slice .. | .lookup .. => .reader
 | .convert s _ _=>match I.dI s with
  |some (.slice _)=> .reader
  |_=> .vK
 | .store .. | .mapUpdate .. | .insert .. | .mapEntry .. | .entryStore .. | .panic _=> .gz
 | .call c=>match c.callee with
  | .builtin .len=> .reader
  | .builtin .min| .builtin .max=> .vK
  |_=> .gz
 |_=> .vK
def sD(o:Oper):Bool :=
 match o.op with
 | .alloc _| .box .. | .buildSlice .. | .makeMap .. | .makeSlice .. | .convert .. =>true
 |_=>false
def KR{α:Type}(n:Nat)(K:Nat->α): α:=match n with|0=>K 0|m+1=>K (m+1)
theorem HX{α}(n)(K:Nat->α):KR n K=K n:=by cases n<;>rfl
structure PM where
 n:Nat
 l:List Nat
def PM.at(p:PM)(j:Nat):Nat:=p.l.getD (p.n-1-j) 0
def PM.pre(p:PM)(i j:Nat):Bool:=(p.at j).testBit i
def VH(p:PM)(a:List Edge):Nat:=a.foldl (λs e=>bif Region.binds .any e then s ||| 2^e.on ||| p.at e.on else s) 0
def PM.of:List Oper->PM->PM
 |[],p=>p
 |o::os,p=>KR (VH p o.after.toList) λm=>PM.of os {n:=p.n+1,l:=m::p.l}
def D8(o:Oper):List Tmp:=o.op.operands.toList.filterMap (λ| .tmp t=>a_ t|_=>j_)
def sE:List Nat->Nat->Bool
 |[],_=>false
 |a::as,x=>bif f_ a x then true else sE as x
theorem vL:∀{l x},sE l x=true↔x∈l
 |[],x=>by simp[sE]
 |a::as,x=>by
  simp only[sE]
  cases h:f_ a x with
  |true=>simp_all
  |false=>
   have b :¬ x=a:=λe=>ZD
   simp only[cond_false,List.mem_cons,b,false_or]
   exact vL
def St.lk(G:Nat)(s:St)(o:Oper):Operand->AV
 | .tmp i=>bif sE (D8 o) i then cR s.t i else .any
 |x=>s.ev G x
def gA(ops:Array Oper)(o:Oper):List Tmp :=
 o.dst.toList++D8 o++(match o.guard with|some (j,_)=>(match(ops[j]?).bind (·.dst)with|some d=>[d]|none=>[])|none=>[])
def gB(o:Oper):Bool:=match Vx I o with| .gz=>true|_=>false
def gP(ops:Array Oper)(p:PM):Bool :=
  (ops.toList.zipIdx.all λx => x.1.after.toList.all λe => !Region.binds .any e || p_ e.on x.2) &&
  (ops.toList.zipIdx.all λx => ops.toList.zipIdx.all λy =>
    !Nat.blt y.2 x.2 ||
      ((!(gB I x.1 && gB I y.1) || p.pre y.2 x.2) &&
       ((match y.1.dst with|some d => !(gA ops x.1).contains d|none => true) || p.pre y.2 x.2) &&
       ((match x.1.dst with|some d => !(gA ops y.1).contains d|none => true) || p.pre y.2 x.2)))
inductive Out where
 |skip
 |pure (a:AV)
 |fresh (a:AV) (b:eT)
 |read (a:AV)
 |gz (a:AV) (H:AH)
structure jI where
 ix:Nat
 o:Oper
 s:St
 out:Out
def jI.next(n0:Nat)(e:jI):St :=
 match e.out with
 | .skip=>e.s.put e.o.dst (.qP [])
 | .pure v=>e.s.put e.o.dst v
 | .read v=>e.s.put e.o.dst v
 | .fresh v b=>(e.s.heap (e.s.H.set (n0+e.ix) b)).put e.o.dst v
 | .gz v H=>(e.s.heap H).put e.o.dst v
def gQ(p:PM)(n0 i:Nat):List Nat->AH->AH
 |[],H=>H
 |a::as,H=>bif p.pre a i then gQ p n0 i as H else(gQ p n0 i as H).set (n0+a) .dead
def ff(p:PM)(n0 i:Nat)(H:AH):List Nat->AH->AH
 |[],H'=>H'
 |a::as,H'=>bif p.pre a i then ff p n0 i H as H' else(ff p n0 i H as H').set (n0+a) (H.get (n0+a))
def po(p:PM)(al:List Nat)(n0 i:Nat)(o:Oper)(ev:Operand->AV)(v:AV)(K:R):List jI->R
 |[]=>K
 |e::es=>match e.out with
  | .gz _ _=>bif p.pre e.ix i then po p al n0 i o ev v K es
   else Vw X I o ev (gQ p n0 i al e.s.H) λa=>X.bq (v.beq a) (po p al n0 i o ev v K es)
  |_=>po p al n0 i o ev v K es
def UE(p:PM)(al:List Nat)(n0 h:Nat)(H:AH)(K:R):List jI->R
 |[]=>K
 |e::es=>match e.out with
  | .read v=>bif p.pre e.ix h then UE p al n0 h H K es
   else Vw X I e.o (e.s.lk I.G e.o) (gQ p n0 e.ix al H) λa=>X.bq (v.beq a) (UE p al n0 h H K es)
  |_=>UE p al n0 h H K es
def Gi(b:iQ R)(round:gZ R)(p:PM)(al:List Nat)(n0 N i:Nat)(c:List jI)(o:Oper)(s:St)(a:jI->R):R :=
 match Vx I o with
 | .vK=>DW X I o (s.lk I.G o) (.blank N) λv H'=>
   bif f_ H'.n N then a {ix:=i,o,s,out:=.pure v}
   else bif f_ H'.n (N+1)&&sD o then a {ix:=i,o,s,out:=.fresh (v.bD (kw N (n0+i))) ((H'.get N).bD (kw N (n0+i)))}
   else X.fail
 | .reader=>Vw X I o (s.lk I.G o) (gQ p n0 i al s.H) λv=>po X I p al n0 i o (s.lk I.G o) v (a {ix:=i,o,s,out:=.read v}) c
 | .gz=>Pq X I b round o (s.lk I.G o) (gQ p n0 i al s.H) (λv H'=>bif B_ H'.n N then UE X I p al n0 i (ff p n0 i s.H al H') (a {ix:=i,o,s,out:=.gz v (ff p n0 i s.H al H')}) c else X.fail) (λ_ _=>X.fail)
def vM(a:iQ R)(round:gZ R)(ops:Array Oper)(p:PM)(al:List Nat)(n0 N:Nat)(K:St->R):List Oper->Nat->List jI->St->R
 |[],_,_,s=>K s
 |o::rest,i,c,s=>
  match o.guard with
  |none=>Gi X I a round p al n0 N i c o s λe=>vM a round ops p al n0 N K rest (i+1) (e::c) (e.next n0)
  |some (j,want)=>
   match(ops[j]?).bind (·.dst)with
   |none=>X.fail
   |some d=>
    match cR s.t d with
    | .bool b=>
     let run (s:St):=Gi X I a round p al n0 N i c o s λe=>vM a round ops p al n0 N K rest (i+1) (e::c) (e.next n0)
     let skip (s:St):=vM a round ops p al n0 N K rest (i+1) ({ix:=i,o,s,out:=.skip}::c) (jI.next n0 {ix:=i,o,s,out:=.skip})
     X.cond b (λ_=>(bif want then run else skip) (s.put (a_ d) (.bool true))) (λ_=>(bif want then skip else run) (s.put (a_ d) (.bool false)))
    | .qP []=>vM a round ops p al n0 N K rest (i+1) ({ix:=i,o,s,out:=.skip}::c) (jI.next n0 {ix:=i,o,s,out:=.skip})
    |_=>X.fail
def lO:Nat->List Oper->List Nat
 |_,[]=>[]
 |i,o::os=>bif (match Vx I o with| .vK=>sD o|_=>false)then i::lO (i+1) os else lO (i+1) os
def drawn(N:Nat):ot R:=λa round ops k s=>
 bif gP I ops (PM.of ops.toList {n:=0,l:=[]})&&B_ (s.H.n+ops.size) N then
  vM X I a round ops (PM.of ops.toList {n:=0,l:=[]}) (lO I 0 ops.toList) s.H.n N k.n ops.toList 0 [] (s.heap (s.H.up (s.H.n+ops.size)))
 else X.fail
end
section
variable {R:Type} {X:RI R} {sem:R->Prop} (hX:X.Ok sem) {I:ba} {P:Program} (hI:I.Ok P)
include hX hI in
theorem D9{o:Oper}{ev:Operand->AV}{H:AH}{K:AV->R}(h:sem (Vw X I o ev H K)):∃v,sem (K v)/\eE P o ev H v:=by
 unfold Vw at h
 split at h
 ·rename_i t a f
  obtain⟨b,j,k⟩:=vf hX hI h
  refine⟨b,j,by simp[f],λc ρ w e g l=>?_⟩
  obtain⟨v,m,n⟩:=k c ρ w (e a) (g a) l
  exact⟨v,by simp[execOp,f,m],n⟩
 ·rename_i t x lo hi mx f
  obtain⟨b,j,k⟩:=yi hX hI H h
  refine⟨b,j,by simp[f],λc ρ w e g l=>?_⟩
  obtain⟨u,m,n⟩:=k c ρ w (e x) (lo.map e) (hi.map e) (mx.map e) (g x) (kW g lo) (kW g hi) (kW g mx) l
  exact⟨u,by simp[execOp,f,m],n⟩
 ·rename_i t x i ok f
  obtain⟨b,j,k⟩:=tH hX hI h
  refine⟨b,j,by simp[f],λc ρ w e g l=>?_⟩
  obtain⟨u,m,n⟩:=k c ρ w (e x) (e i) (g x) (g i) l
  exact⟨u,by simp[execOp,f,m],n⟩
 ·rename_i s d x f
  split at h
  ·rename_i e q r
   obtain⟨b,j,k⟩:=yj hX hI q r h
   refine⟨b,j,by simp[f],λc ρ w e g l=>?_⟩
   obtain⟨u,m,n⟩:=k c ρ w (e x) (g x) l
   exact⟨u,by simp[execOp,f,m],n⟩
  ·exact zR
 ·rename_i args y f
  split at h
  ·rename_i x t hx ht
   have ha:args= #[x]:=by apply n_;simpa using hx
   have p:y= #[t]:=by apply n_;simpa using ht
   subst ha p
   obtain⟨b,j,k⟩:=Ga hX hI h #[t] rfl o.type
   refine⟨b,j,by simp[f],λc ρ w e g l=>?_⟩
   obtain⟨u,m,n⟩:=k c ρ w (e x) (g x) l
   exact⟨u,by simp[execOp,f,resolve,invoke,builtin,m],n⟩
  ·exact zR
 ·exact zR
end
end
section
def yw(P:Program)(o:Oper)(ev:Operand->AV)(N:Nat)(v:AV)(H':AH):Prop :=
 (∀c,o.op≠ .defer c)/\∀c ρ w (e:Operand->Value),(∀x,VR ρ (ev x) (e x))->Rel c ρ (.blank N) w->iO P (execOp e o) c ρ w v H'
def pq(ops:Array Oper)(e:jI):Prop :=
 e.o.guard=j_∨∃j a d,e.o.guard=a_ (j,a)/\(ops[j]?).bind (·.dst)=a_ d/\cR e.s.t d= .bool a
def KT(ops:Array Oper)(e:jI):Prop :=
 ∃j a d,e.o.guard=a_ (j,a)/\(ops[j]?).bind (·.dst)=a_ d/\(cR e.s.t d= .bool (!a)∨cR e.s.t d= .qP [])
structure jh (s s':St):Prop where
 nt:s'.nt=s.nt
 H:s'.H=s.H
 df:s'.df=s.df
 t:∀a,cR s'.t a=cR s.t a
theorem jh.refl(s):jh s s:=⟨rfl,rfl,rfl,λ_=>rfl⟩
theorem jh.lit{s d b}(h:cR s.t d= .bool b):jh s (s.put (a_ d) (.bool b)):=by
 simp only[St.put]
 cases p_ d s.nt with
 |true=>
  refine⟨rfl,rfl,rfl,λu=>?_⟩
  simp only[cond_true]
  rw[oo]
  grind
 |false=>exact jh.refl s
section
variable (P:Program) (I:ba) (ops:Array Oper) (p:PM) (al:List Nat) (n0 N:Nat) (s0:St)
def KU(e:jI):Prop :=
 ops[e.ix]? =a_ e.o/\
 match e.out with
 | .skip=>KT ops e
 | .pure v=>pq ops e/\gB I e.o=false/\∃H',H'.n=N/\yw P e.o (e.s.lk I.G e.o) N v H'
 | .fresh v b=>pq ops e/\gB I e.o=false/\e.ix∈al/\∃a H',H'.n=N+1/\yw P e.o (e.s.lk I.G e.o) N a H'/\v=a.bD (kw N (n0+e.ix))/\b=(H'.get N).bD (kw N (n0+e.ix))
 | .read v=>pq ops e/\gB I e.o=false/\eE P e.o (e.s.lk I.G e.o) (gQ p n0 e.ix al e.s.H) v
 | .gz v H2=>pq ops e/\gB I e.o=true/\∃H',rj P I e.o (e.s.lk I.G e.o) (gQ p n0 e.ix al e.s.H) (.ret v H')/\H2=ff p n0 e.ix e.s.H al H'/\H'.n<=N
def fI(E:Nat->jI):Nat->St
 |0=>s0
 |j+1=>(E j).next n0
structure iI (i:Nat) (E:Nat->jI) (s:St):Prop where
 ix:∀a,a<i->(E a).ix=a
 ok:∀a,a<i->KU P I ops p al n0 N (E a)
 same:∀a,a<i->jh (fI n0 s0 E a) (E a).s
 last:s=fI n0 s0 E i
 back:∀a h c b Hh,a<i->h<a->(E a).out= .read c->(E h).out= .gz b Hh->p.pre h a=false->eE P (E a).o ((E a).s.lk I.G (E a).o) (gQ p n0 a al (E h).s.H) c
 R1:∀a h c b Hh,h<i->a<h->(E a).out= .read c->(E h).out= .gz b Hh->p.pre a h=false->eE P (E a).o ((E a).s.lk I.G (E a).o) (gQ p n0 a al Hh) c
end
section
variable {P:Program} {I:ba} {ops:Array Oper} {p:PM} {al:List Nat} {n0 N:Nat} {s0:St}
theorem vN{E a i}(h:∀j,j<i->a j=E j):fI n0 s0 a i=fI n0 s0 E i:=by
 cases i with
 |zero=>rfl
 |succ i=>simp only[fI];grind
theorem iI.snoc{i E s}(h:iI P I ops p al n0 N s0 i E s)(e)(hi:e.ix=i)(y:KU P I ops p al n0 N e)(w:jh s e.s)
  (B:∀h v u b,h<i->e.out= .read v->(E h).out= .gz u b->p.pre h i=false->eE P e.o (e.s.lk I.G e.o) (gQ p n0 i al (E h).s.H) v)
  (C:∀j v u b,j<i->(E j).out= .read v->e.out= .gz u b->p.pre j i=false->eE P (E j).o ((E j).s.lk I.G (E j).o) (gQ p n0 j al b) v):
  ∃a,(∀j,j<i->a j=E j)/\a i=e/\iI P I ops p al n0 N s0 (i+1) a (e.next n0):=by
 obtain⟨a,q⟩:∃a:Nat->jI,a=λj=>if j=i then e else E j:=⟨_,rfl⟩
 have c:a i=e:=by rw[q];simp
 have off:∀j,j<i->a j=E j:=λj d=>Y
 refine⟨a,off,c,λj d=>?_,λj d=>?_,λj d=>?_,?_,λj k v u b d f l m t=>?_,λj k v u b f d l m t=>?_⟩
 ·by_cases e1:j=i
  grind
  ·rw[off j O];exact h.ix j O
 ·by_cases e1:j=i
  grind
  ·rw[off j O];exact h.ok j O
 ·by_cases e1:j=i
  ·subst e1
   rw[c,vN (λk f=>off k f),<-h.last]
   exact w
  ·rw[off j O,vN (λk f=>off k O)]
   exact h.same j O
 ·simp only[fI,c]
 ·by_cases e1:j=i
  grind
  ·rw[off j O]at l⊢
   rw[off k O]at m⊢
   exact h.back j k v u b O f l m t
 ·by_cases e1:k=i
  grind
  ·rw[off j O]at l⊢
   rw[off k O]at m
   exact h.R1 j k v u b O d l m t
end
section
variable {R:Type} {X:RI R} {sem:R->Prop} (hX:X.Ok sem) {I:ba} {P:Program} (hI:I.Ok P)
theorem eE.beq{P o ev a v b}(h:eE P o ev a b)(d:v.beq b=true):eE P o ev a v :=
 ⟨h.1,λc ρ w e f i=>by
  obtain⟨u,j,l⟩:=h.2 c ρ w e f i
  exact⟨u,j,AV.fH _ _ _ d l⟩⟩
include hX hI in
theorem nC{p:PM}{al:List Nat}{n0 i:Nat}{o:Oper}{ev:Operand->AV}{v:AV}{K:R}:∀{m:List jI},sem (po X I p al n0 i o ev v K m)->
  sem K/\∀e∈m,∀u n,e.out= .gz u n->p.pre e.ix i=false->eE P o ev (gQ p n0 i al e.s.H) v
 |[],h=>⟨h,λe q=>by cases q⟩
 |e::m,h=>by
  simp only[po]at h
  split at h
  ·rename_i u n f
   cases hp:p.pre e.ix i with
   |true=>
    rw[hp]at h
    obtain⟨j,g⟩:=nC h
    refine⟨j,λk a l d c b=>?_⟩
    rcases List.mem_cons.1 a with rfl|a
    ·rw[hp]at b;cases b
    ·exact g k a l d c b
   |false=>
    rw[hp]at h
    obtain⟨y,j,g⟩:=D9 hX hI h
    obtain⟨r,t⟩:=hX.bq _ _ j
    have g:=g.beq r
    obtain⟨w,x⟩:=nC t
    refine⟨w,λk a l d c b=>?_⟩
    rcases List.mem_cons.1 a with rfl|a
    ·exact g
    ·exact x k a l d c b
  ·rename_i f
   obtain⟨j,g⟩:=nC h
   refine⟨j,λk a l d c b=>?_⟩
   rcases List.mem_cons.1 a with rfl|a
   ·exact absurd c (f _ _)
   ·exact g k a l d c b
include hX hI in
theorem nD{p:PM}{al:List Nat}{n0 k:Nat}{H:AH}{K:R}:∀{l:List jI},sem (UE X I p al n0 k H K l)->
  sem K/\∀e∈l,∀v,e.out= .read v->p.pre e.ix k=false->eE P e.o (e.s.lk I.G e.o) (gQ p n0 e.ix al H) v
 |[],h=>⟨h,λe m=>by cases m⟩
 |e::l,h=>by
  simp only[UE]at h
  split at h
  ·rename_i v d
   cases hp:p.pre e.ix k with
   |true=>
    rw[hp]at h
    obtain⟨i,f⟩:=nD h
    refine⟨i,λj a g b c=>?_⟩
    rcases List.mem_cons.1 a with rfl|a
    ·rw[hp]at c;cases c
    ·exact f j a g b c
   |false=>
    rw[hp]at h
    obtain⟨g,i,f⟩:=D9 hX hI h
    obtain⟨n,q⟩:=hX.bq _ _ i
    have f:=f.beq n
    obtain⟨r,t⟩:=nD q
    refine⟨r,λj a g b c=>?_⟩
    rcases List.mem_cons.1 a with rfl|a
    ·rw[d]at b;cases b;exact f
    ·exact t j a g b c
  ·rename_i d
   obtain⟨i,f⟩:=nD h
   refine⟨i,λj a g b c=>?_⟩
   rcases List.mem_cons.1 a with rfl|a
   ·exact absurd b (d _)
   ·exact f j a g b c
def Gj(I:ba)(ops:Array Oper)(al:List Nat):Prop := ∀i o,ops[i]? =a_ o->(∃u,Vx I o=u/\u= .vK)->sD o=true->i∈al
include hX hI in
theorem Gk{a:iQ R}(x:gN P I sem a){round:gZ R}(q:Ke P I sem round){ops:Array Oper}{p:PM}{al:List Nat}(U:Gj I ops al){n0 N:Nat}{s0:St}{K:St->R}:
  ∀(l:List Oper)(i:Nat)(s:St)(E:Nat->jI),ops.toList.drop i=l->i<=ops.size->iI P I ops p al n0 N s0 i E s->sem (vM X I a round ops p al n0 N K l i (((e_ i).map E).reverse) s)->
  ∃sf m,sem (K sf)/\iI P I ops p al n0 N s0 ops.size m sf
 |[],i,s,E,hl,ad,ht,h=>by
  simp only[vM]at h
  have hi:ops.size<=i:=by
   have:=congrArg List.length hl
   simp at this;omega
  have:i=ops.size:=O
  subst this
  exact⟨s,E,h,ht⟩
 |o::rest,i,s,E,hl,ad,ht,h=>by
  have J:ops[i]? =a_ o:=by
   have:(ops.toList.drop i)[0]? =a_ o:=by rw[hl];rfl
   rw[List.getElem?_drop]at this
   simpa using this
  have L:ops.toList.drop (i+1)=rest:=by rw[<-List.drop_drop,hl];rfl
  have mem:∀j,j<i->E j∈((e_ i).map E).reverse:=λj hj=>by simp;exact⟨j,hj,rfl⟩
  have next:∀(e:jI)(m:Nat->jI),(∀j,j<i->m j=E j)->m i=e->e::((e_ i).map E).reverse=((e_ (i+1)).map m).reverse:=λe m c C=>by
   rw[List.range_succ,List.map_append,List.reverse_append]
   simp only[r_,List.map_nil,List.reverse_cons,List.reverse_nil,List.nil_append,List.singleton_append,C]
   congr 2
   exact List.map_congr_left λj hj=>(c j (List.mem_range.1 hj)).symm
  have go:∀e:jI,e.ix=i->KU P I ops p al n0 N e->jh s e.s->
    (∀h v u Q,h<i->e.out= .read v->(E h).out= .gz u Q->p.pre h i=false->eE P e.o (e.s.lk I.G e.o) (gQ p n0 i al (E h).s.H) v)->
    (∀j v u Q,j<i->(E j).out= .read v->e.out= .gz u Q->p.pre j i=false->eE P (E j).o ((E j).s.lk I.G (E j).o) (gQ p n0 j al Q) v)->
    sem (vM X I a round ops p al n0 N K rest (i+1) (e::((e_ i).map E).reverse) (e.next n0))->∃sf m,sem (K sf)/\iI P I ops p al n0 N s0 ops.size m sf:=by
   intro e c C V W h5 h6
   obtain⟨m,k1,k2,k3⟩:=ht.snoc e c C V W h5
   rw[next e m k1 k2]at h6
   exact Gk x q U rest (i+1) _ m L (by have:=(Array.getElem?_eq_some_iff.1 J).1;omega) k3 h6
  have y:∀k:St,jh s k->(∀out,pq ops {ix:=i,o,s:=k,out})->
    sem (Gi X I a round p al n0 N i (((e_ i).map E).reverse) o k λe=>vM X I a round ops p al n0 N K rest (i+1) (e::((e_ i).map E).reverse) (e.next n0))->
    ∃sf m,sem (K sf)/\iI P I ops p al n0 N s0 ops.size m sf:=by
   intro k r T h
   unfold Gi at h
   split at h
   ·rename_i f
    have D:gB I o=false:=by simp[gB,f]
    have Y:=Be hX h
    obtain⟨v,H',c,C⟩:=Gd hX hI h
    cases hn:f_ H'.n N with
    |true=>
     rw[hn]at c
     exact go {ix:=i,o,s:=k,out:=.pure v} rfl ⟨J,T _,D,H',dE hn,Y,C⟩ r (λ_ _ _ _ _ e=>zG) (λ_ _ _ _ _ _ e=>zG) c
    |false=>
     rw[hn]at c
     cases B:f_ H'.n (N+1)&&sD o with
     |true=>
      simp only[B,cond_true,cond_false]at c
      simp only[bf]at B
      exact go {ix:=i,o,s:=k,out:=.fresh (v.bD (kw N (n0+i))) ((H'.get N).bD (kw N (n0+i)))} rfl ⟨J,T _,D,U i o J ⟨_,f,rfl⟩ B.2,v,H',dE B.1,⟨Y,C⟩,rfl,rfl⟩ r (λ_ _ _ _ _ e=>zG) (λ_ _ _ _ _ _ e=>zG) c
     |false=>
      simp only[B,cond_false]at c
      exact absurd c hX.fail
   ·rename_i f
    have D:gB I o=false:=by simp[gB,f]
    obtain⟨v,c,C⟩:=D9 hX hI h
    obtain⟨V,W⟩:=nC hX hI (P:=P) c
    refine go {ix:=i,o,s:=k,out:=.read v} rfl ⟨J,T _,D,C⟩ r (λD v' u Q w e1 e2 hp=>?_) (λ_ _ _ _ _ _ e=>zG) V
    cases e1
    exact W _ (mem D w) u Q e2 (by rw[ht.ix D w];exact hp)
   ·rename_i f
    have D:gB I o=true:=by simp[gB,f]
    obtain⟨out,c,C⟩:=D3 hX hI x q h
    cases out with
    |qt v H'=>exact absurd c hX.fail
    |ret v H'=>
     simp only[CO.sem]at c
     cases hle:B_ H'.n N with
     |false=>rw[hle]at c;exact absurd c hX.fail
     |true=>
     rw[hle]at c
     obtain⟨V,W⟩:=nD hX hI (P:=P) c
     refine go {ix:=i,o,s:=k,out:=.gz v (ff p n0 i k.H al H')} rfl ⟨J,T _,D,H',C,rfl,jX hle⟩ r (λ_ _ _ _ _ e=>zG) (λj v' u Q w e1 e2 hp=>?_) V
     cases e2
     have:=W _ (mem j w) v' e1 (by rw[ht.ix j w];exact hp)
     rw[ht.ix j w]at this
     exact this
  have skip:∀k:St,jh s k->KT ops {ix:=i,o,s:=k,out:=.skip}->sem (vM X I a round ops p al n0 N K rest (i+1) ({ix:=i,o,s:=k,out:=.skip}::((e_ i).map E).reverse) (jI.next n0 {ix:=i,o,s:=k,out:=.skip}))->
    ∃sf m,sem (K sf)/\iI P I ops p al n0 N s0 ops.size m sf:=λk r T h=>
   go {ix:=i,o,s:=k,out:=.skip} rfl ⟨J,T⟩ r (λ_ _ _ _ _ e=>zG) (λ_ _ _ _ _ _ e=>zG) h
  simp only[vM]at h
  split at h
  ·rename_i S
   exact y s (jh.refl s) (λout=> .inl S) h
  ·rename_i j Z S
   split at h
   ·exact zR
   ·rename_i d hd
    split at h
    ·rename_i b hb
     have hc:=hX.cond _ _ _ h
     have g:jh s (s.put (a_ d) (.bool b)):=jh.lit hb
     have F:cR (s.put (a_ d) (.bool b)).t d= .bool b:=(g.t d).trans hb
     cases b<;>cases Z<;>simp only[if_true,kH,if_false,cond_true,cond_false]at hc
     ·exact y _ g (λout=> .inr ⟨j,_,d,S,hd,F⟩) hc
     ·exact skip _ g ⟨j,_,d,S,hd,.inl F⟩ hc
     ·exact skip _ g ⟨j,_,d,S,hd,.inl F⟩ hc
     ·exact y _ g (λout=> .inr ⟨j,_,d,S,hd,F⟩) hc
    ·rename_i hb
     exact skip s (jh.refl s) ⟨j,_,d,S,hd,.inr hb⟩ h
    ·exact zR
end
end
section
theorem PM.Gl{p:PM}(hl:p.l.length=p.n)(m){j}(a:j<p.n):({n:=p.n+1,l:=m::p.l}:PM).at j=p.at j:=by
 simp only[PM.at]
 grind
theorem PM.Tj(p:PM)(m):({n:=p.n+1,l:=m::p.l}:PM).at p.n=m:=by
 simp[PM.at]
theorem PM.Gm:∀(os)(p),p.l.length=p.n->(PM.of os p).l.length=(PM.of os p).n/\(PM.of os p).n=p.n+os.length/\(∀j,j<p.n->(PM.of os p).at j=p.at j)/\
  ∀t o,os[t]? =a_ o->∃q,(∀i,i<p.n+t->q.at i=(PM.of os p).at i)/\(PM.of os p).at (p.n+t)=VH q o.after.toList
 |[],p,h=>⟨h,rfl,λ_ _=>rfl,zA⟩
 |o::os,p,h=>by
  simp only[PM.of,HX]
  have b:=PM.Gm os {n:=p.n+1,l:=VH p o.after.toList::p.l} (by simp[h])
  obtain⟨c,d,a,m⟩:=b
  refine⟨c,by rw[d];simp;omega,λj f=>?_,λt s e=>?_⟩
  ·rw[a j zJ]
   exact PM.Gl h _ f
  ·cases t with
   |zero=>
    simp only[s_,fE]at e
    subst e
    refine⟨p,λi hi=>?_,?_⟩
    ·rw[a i zJ]
     exact(PM.Gl h _ O).symm
    ·rw[a (p.n+0) zA]
     exact PM.Tj p _
   |succ t=>
    grind
theorem z7{p i}:∀{a},(VH p a).testBit i=true->∃e∈a,Region.binds .any e=true/\(i=e.on∨(p.at e.on).testBit i=true):=by
 intro a
 have key:∀(a:List Edge)(s:Nat),(a.foldl (λs e=>bif Region.binds .any e then s ||| 2^e.on ||| p.at e.on else s) s).testBit i=true->s.testBit i=true∨∃e∈a,Region.binds .any e=true/\(i=e.on∨(p.at e.on).testBit i=true):=by
  intro a
  induction a with
  |nil=>simp
  |cons e a b=>
   grind
 intro h
 rcases key a 0 h with h|h
 all_goals grind
def bz(ops:Array Oper):PM:=PM.of ops.toList {n:=0,l:=[]}
section
variable {I:ba} {ops:Array Oper} (hplan:gP I ops (bz ops)=true)
include hplan
theorem iZ{j o}(c:ops[j]? =a_ o){e}(a:e∈o.after)(d:Region.binds .any e=true):e.on<j:=by
 simp only[gP,bf]at hplan
 have b:=List.all_eq_true.1 hplan.1 (o,j) Y
 have f:=List.all_eq_true.1 b e (by simpa using a)
 simp_all
theorem BD{i j}(d:j<ops.size)(h:(bz ops).pre i j=true):∃o e,ops[j]? =a_ o/\e∈o.after/\Region.binds .any e=true/\(i=e.on∨(bz ops).pre i e.on=true):=by
 have b:ops[j]? =a_ ops[j]:=z d
 obtain⟨_,_,_,f⟩:=PM.Gm ops.toList {n:=0,l:=[]} rfl
 obtain⟨q,k1,k2⟩:=f j ops[j] zA
 simp only[F_]at k1 k2
 unfold PM.pre bz at h
 rw[k2]at h
 obtain⟨e,g,c,k⟩:=z7 h
 have a:e∈ops[j].after:=by simpa using g
 refine⟨ops[j],e,b,a,c,k.imp id λm=>?_⟩
 unfold PM.pre bz
 rw[<-k1 e.on (iZ hplan b a c)]
 exact m
theorem uP:∀{j i},j<ops.size->(bz ops).pre i j=true->i<j:=by
 intro j
 induction j using q_ with
 |_ j g=>
  intro i a h
  obtain⟨o,e,b,c,d,k⟩:=BD hplan a h
  have f:=iZ hplan b c d
  grind
theorem mD{x y a b}(hx:ops[x]? =a_ a)(f:ops[y]? =a_ b)(c:y<x):
  ((gB I a=true/\gB I b=true)∨(∃d,b.dst=a_ d/\d∈gA ops a)∨(∃d,a.dst=a_ d/\d∈gA ops b))->(bz ops).pre y x=true:=by
 simp only[gP,bf]at hplan
 have e:=List.all_eq_true.1 hplan.2 (a,x) Y
 have g:=List.all_eq_true.1 e (b,y) Y
 have h:p_ y x=true:=by rw[l_];exact c
 grind
theorem Q7{listed:Nat->Prop}(l:∀j o,ops[j]? =a_ o->listed j->∀e∈o.after,Region.binds .any e=true->listed e.on):
  ∀{j o},ops[j]? =a_ o->(∀e∈o.after,Region.binds .any e=true->listed e.on)->∀i,(bz ops).pre i j=true->listed i:=by
 intro j
 induction j using q_ with
 |_ j m=>
  intro o b c i h
  have d:=(Array.getElem?_eq_some_iff.1 b).1
  obtain⟨n,e,a,f,g,p⟩:=BD hplan d h
  rw[b]at a
  cases a
  have k:=iZ hplan b f g
  grind
end
def Hid(p:PM)(n0 i:Nat)(al:List Nat)(l:Nat):Prop := ∃a∈al,p.pre a i=false/\l=n0+a
theorem rp{p n0 i H}:∀{al},(gQ p n0 i al H).n=H.n
 |[]=>rfl
 |a::as=>by
  simp only[gQ]
  cases p.pre a i with
  |true=>exact rp
  |false=>exact rp
theorem jJ{p n0 i H}:∀{al}(l),(Hid p n0 i al l->(gQ p n0 i al H).get l= .dead)/\(¬ Hid p n0 i al l->(gQ p n0 i al H).get l=H.get l)
 |[],l=>⟨λh=>(by obtain⟨_,h,_⟩:=h;cases h),λ_=>rfl⟩
 |a::as,l=>by
  have e:=jJ (p:=p) (n0:=n0) (i:=i) (H:=H) (al:=as) l
  simp only[gQ]
  cases hp:p.pre a i with
  |true=>
   simp only[cond_true]
   have:Hid p n0 i (a::as) l↔Hid p n0 i as l:=by
    constructor
    ·rintro⟨b,c,h1,d⟩
     rcases List.mem_cons.1 c with rfl|c
     grind
     ·exact⟨b,c,h1,d⟩
    ·rintro⟨b,c,h⟩
     exact⟨b,g_ _ c,h⟩
   grind
  |false=>
   simp only[cond_false,H_]
   by_cases hl:l=n0+a
   ·rw[if_pos hl]
    exact⟨λ_=>rfl,λh=>absurd ⟨a,o_,hp,hl⟩ h⟩
   ·rw[if_neg hl]
    have:Hid p n0 i (a::as) l↔Hid p n0 i as l:=by
     constructor
     ·rintro⟨b,c,h1,d⟩
      rcases List.mem_cons.1 c with rfl|c
      ·exact absurd d hl
      ·exact⟨b,c,h1,d⟩
     ·rintro⟨b,c,h⟩
      exact⟨b,g_ _ c,h⟩
    grind
theorem OJ{p n0 i H H'}:∀{al},(ff p n0 i H al H').n=H'.n
 |[]=>rfl
 |a::as=>by
  simp only[ff]
  cases p.pre a i with
  |true=>exact OJ
  |false=>exact OJ
theorem ck{p n0 i H H'}:∀{al}(l),(Hid p n0 i al l->(ff p n0 i H al H').get l=H.get l)/\(¬ Hid p n0 i al l->(ff p n0 i H al H').get l=H'.get l)
 |[],l=>⟨λh=>(by obtain⟨_,h,_⟩:=h;cases h),λ_=>rfl⟩
 |a::as,l=>by
  have e:=ck (p:=p) (n0:=n0) (i:=i) (H:=H) (H':=H') (al:=as) l
  simp only[ff]
  cases hp:p.pre a i with
  |true=>
   simp only[cond_true]
   have:Hid p n0 i (a::as) l↔Hid p n0 i as l:=by
    constructor
    ·rintro⟨b,c,h1,d⟩
     rcases List.mem_cons.1 c with rfl|c
     grind
     ·exact⟨b,c,h1,d⟩
    ·rintro⟨b,c,h⟩
     exact⟨b,g_ _ c,h⟩
   grind
  |false=>
   simp only[cond_false,H_]
   by_cases hl:l=n0+a
   ·rw[if_pos hl]
    exact⟨λ_=>by rw[hl],λh=>absurd ⟨a,o_,hp,hl⟩ h⟩
   ·rw[if_neg hl]
    have:Hid p n0 i (a::as) l↔Hid p n0 i as l:=by
     constructor
     ·rintro⟨b,c,h1,d⟩
      rcases List.mem_cons.1 c with rfl|c
      ·exact absurd d hl
      ·exact⟨b,c,h1,d⟩
     ·rintro⟨b,c,h⟩
      exact⟨b,g_ _ c,h⟩
    grind
end
section
def jI.val(e:jI):AV :=
 match e.out with
 | .skip=> .qP []
 | .pure v=>v
 | .fresh v _=>v
 | .read v=>v
 | .gz v _=>v
def dO(E:Nat->jI)(i:Nat):Prop := ∃v H,(E i).out= .gz v H
def eH(E:Nat->jI)(i:Nat):Prop := ∃v b,(E i).out= .fresh v b
theorem St.Vy(s:St)(d)(a):(s.put d a).H=s.H:=by
 cases s
 cases d with
 |none=>rfl
 |some i=>simp only[St.put];grind
theorem St.Tk(s:St)(d)(a):(s.put d a).nt=s.nt:=by
 cases s
 cases d with
 |none=>rfl
 |some i=>simp only[St.put];grind
theorem St.Tl(s:St)(d)(a):(s.put d a).df=s.df:=by
 cases s
 cases d with
 |none=>rfl
 |some i=>simp only[St.put];grind
theorem St.Vz(s:St)(d)(a)(u):cR (s.put d a).t u=if d=a_ u/\u<s.nt then a else cR s.t u:=by
 cases d with
 |none=>simp[St.put]
 |some i=>
  cases hi:p_ i s.nt with
  |true=>
   simp only[St.put,hi,cond_true,oo]
   rw[l_]at hi
   grind
  |false=>
   have b :¬ i<s.nt:=λe=>by rw[<-l_,hi]at e;cases e
   simp only[St.put,hi,cond_false]
   grind
theorem jI.Tm(e:jI)(n0 u):cR (e.next n0).t u=if e.o.dst=a_ u/\u<e.s.nt then e.val else cR e.s.t u:=by
 unfold jI.next jI.val
 cases e.out<;>simp only[St.Vz,St.heap]<;>rfl
theorem jI.Pu(e:jI)(n0):(e.next n0).nt=e.s.nt:=by
 unfold jI.next
 cases e.out<;>simp only[St.Tk,St.heap]
theorem jI.Pv(e:jI)(n0):(e.next n0).df=e.s.df:=by
 unfold jI.next
 cases e.out<;>simp only[St.Tl,St.heap]
theorem pu(n0)(s0)(E)(i):fI n0 s0 E (i+1)=(E i).next n0:=rfl
set_option linter.unusedSectionVars false
section
variable {P:Program} {I:ba} {ops:Array Oper} {al:List Nat} {n0 N:Nat} {s0 sf:St} {E:Nat->jI}
variable (hplan:gP I ops (bz ops)=true) (ht:iI P I ops (bz ops) al n0 N s0 ops.size E sf)
include hplan ht
theorem Pw{i}(hi:i<ops.size):(E i).s.H=(fI n0 s0 E i).H:=(ht.same i hi).H
theorem tM{i}(hi:i<ops.size):ops[i]? =a_ (E i).o:=by
 have:=(ht.ok i hi).1
 rwa[ht.ix i hi]at this
theorem KV:∀i,i<=ops.size->(fI n0 s0 E i).nt=s0.nt
 |0,_=>rfl
 |i+1,hi=>by
  rw[pu,jI.Pu,(ht.same i O).nt]
  exact KV i O
theorem R2:∀i,i<=ops.size->(fI n0 s0 E i).df=s0.df
 |0,_=>rfl
 |i+1,hi=>by
  rw[pu,jI.Pv,(ht.same i O).df]
  exact R2 i O
theorem Tn{i}(hi:i<ops.size)(u):cR (fI n0 s0 E (i+1)).t u=if(E i).o.dst=a_ u/\u<s0.nt then(E i).val else cR (fI n0 s0 E i).t u:=by
 rw[pu,jI.Tm,(ht.same i hi).t u,(ht.same i hi).nt,KV hplan ht i O]
theorem Vg{u:Nat}:∀(d i),i+d<=ops.size->(∀j,i<=j->j<i+d->(E j).o.dst≠a_ u)->cR (fI n0 s0 E (i+d)).t u=cR (fI n0 s0 E i).t u
 |0,i,_,_=>rfl
 |d+1,i,hi,h=>by
  have e:i+(d+1)=(i+d)+1:=O
  rw[e,Tn hplan ht O,if_neg ZD]
  exact Vg d i O Y
theorem BE{u}(a :¬ u<s0.nt):∀i,i<=ops.size->cR (fI n0 s0 E i).t u=cR s0.t u
 |0,_=>rfl
 |i+1,hi=>by
  rw[Tn hplan ht O,if_neg (λh=>a h.2)]
  exact BE a i O
theorem kL{i}(hi:i<ops.size):(¬ dO E i/\¬ eH E i/\(fI n0 s0 E (i+1)).H=(fI n0 s0 E i).H)∨
  (¬ dO E i/\∃v b,(E i).out= .fresh v b/\i∈al/\(fI n0 s0 E (i+1)).H=(fI n0 s0 E i).H.set (n0+i) b)∨
  (¬ eH E i/\∃v H2 H',(E i).out= .gz v H2/\H2=ff (bz ops) n0 i (fI n0 s0 E i).H al H'/\H'.n<=N/\(fI n0 s0 E (i+1)).H=H2):=by
 have d:=(ht.ok i hi).2
 have f:=ht.ix i hi
 have g:=Pw hplan ht hi
 have a:∀o,(E i).out=o->(fI n0 s0 E (i+1)).H=(match o with| .fresh _ b=>(fI n0 s0 E i).H.set (n0+i) b| .gz _ H=>H|_=>(fI n0 s0 E i).H):=by
  intro o c
  rw[pu]
  simp only[jI.next,c]
  cases o<;>simp only[St.Vy,St.heap,f,g]
 cases c:(E i).out with
 |skip=>exact .inl ⟨(λ⟨_,_,e⟩=>by rw[c]at e;cases e),(λ⟨_,_,e⟩=>by rw[c]at e;cases e),a _ c⟩
 |pure v=>exact .inl ⟨(λ⟨_,_,e⟩=>by rw[c]at e;cases e),(λ⟨_,_,e⟩=>by rw[c]at e;cases e),a _ c⟩
 |read v=>exact .inl ⟨(λ⟨_,_,e⟩=>by rw[c]at e;cases e),(λ⟨_,_,e⟩=>by rw[c]at e;cases e),a _ c⟩
 |fresh v b=>
  rw[c]at d
  exact .inr (.inl ⟨(λ⟨_,_,e⟩=>by rw[c]at e;cases e),v,b,rfl,Y,a _ c⟩)
 |gz v H2=>
  rw[c]at d
  obtain⟨_,_,H',_,h,j⟩:=d
  rw[f,g]at h
  exact .inr (.inr ⟨(λ⟨_,_,e⟩=>by rw[c]at e;cases e),v,H2,H',rfl,h,j,a _ c⟩)
theorem Px(a:s0.H.n<=N):∀i,i<=ops.size->(fI n0 s0 E i).H.n<=N
 |0,_=>a
 |i+1,hi=>by
  rcases kL hplan ht (O:i<ops.size)with⟨_,_,e⟩|⟨_,v,b,_,_,e⟩|⟨_,v,H2,H',_,e1,c,e⟩
  ·rw[e];exact Px a i O
  ·rw[e];exact Px a i O
  ·rw[e,e1,OJ];exact c
theorem Gn(c:∀l,n0<=l->s0.H.get l= .dead){a}(ha:a∈al):∀i,i<=ops.size->i<=a->(fI n0 s0 E i).H.get (n0+a)= .dead
 |0,_,_=>c _ O
 |i+1,hi,g=>by
  have d:=Gn c ha i O O
  rcases kL hplan ht (O:i<ops.size)with⟨_,_,e⟩|⟨_,v,b,_,_,e⟩|⟨_,v,H2,H',_,e1,h,e⟩
  ·rw[e];exact d
  ·rw[e,H_,if_neg O];exact d
  ·rw[e,e1]
   have f:(bz ops).pre a i=false:=by
    rw[c_]
    intro f
    have:=uP hplan O f
    omega
   rw[(ck _).1 ⟨a,ha,f,rfl⟩]
   exact d
theorem ll{l}:∀(d i),i+d<=ops.size->(∀h,i<=h->h<i+d->dO E h->Hid (bz ops) n0 h al l)->(∀a,i<=a->a<i+d->eH E a->l≠n0+a)->
  (fI n0 s0 E (i+d)).H.get l=(fI n0 s0 E i).H.get l
 |0,i,_,_,_=>rfl
 |d+1,i,hi,g,j=>by
  have k:i+(d+1)=(i+d)+1:=O
  have c:=ll d i O (λh m n=>g h m O) Y
  rw[k]
  rcases kL hplan ht (O:i+d<ops.size)with⟨_,_,e⟩|⟨_,v,b,f,_,e⟩|⟨_,v,H2,H',f,e1,o,e⟩
  ·rw[e];exact c
  ·rw[e,H_,if_neg (j (i+d) O O ⟨v,b,f⟩)];exact c
  ·rw[e,e1,(ck _).1 (g (i+d) O O ⟨v,H2,f⟩)]
   exact c
theorem nF:∀(d i),i+d<=ops.size->(∀h,i<=h->h<i+d->¬ dO E h)->(fI n0 s0 E (i+d)).H.n=(fI n0 s0 E i).H.n
 |0,i,_,_=>rfl
 |d+1,i,hi,a=>by
  have g:i+(d+1)=(i+d)+1:=O
  have c:=nF d i O (λh j k=>a h j O)
  rw[g]
  rcases kL hplan ht (O:i+d<ops.size)with⟨_,_,e⟩|⟨_,v,b,f,_,e⟩|⟨_,v,H2,H',f,e1,l,e⟩
  ·rw[e];exact c
  ·rw[e];exact c
  ·exact absurd ⟨v,H2,f⟩ (a (i+d) O O)
end
theorem Vh(E)(k):∀(d i),i+d=k->∃m,i<=m/\m<=k/\(m<k->dO E m)/\∀h,i<=h->h<m->¬ dO E h
 |0,i,h=>⟨i,dw _,O,λa=>O,O⟩
 |d+1,i,h=>by
  by_cases hi:dO E i
  grind
  ·obtain⟨m,b,c,e,f⟩:=Vh E k d (i+1) O
   grind
end
section
set_option linter.unusedSectionVars false
def dH(listed:Array Bool)(i:Nat):Prop:=listed.getD i false=true
structure Py (ops:Array Oper) (al:List Nat) (n0 N:Nat) (s0:St) (E:Nat->jI) (c:fw) (DI:Env) (listed:Array Bool) (m:Nat) (ρ:Env) (HS:AH) (a:Act) (w:World):Prop where
 size:listed.size=ops.size
 closed:∀f g,ops[f]? =a_ g->dH listed f->∀e∈g.after,Region.binds .any e=true->dH listed e.on
 Pc:m<=ops.size
 mh:m<ops.size->dO E m/\¬ dH listed m
 mlt:∀h,h<m->dO E h->dH listed h
 n:HS.n=(fI n0 s0 E m).H.n
 lo:n0+ops.size<=HS.n
 g1:∀x,x<ops.size->eH E x->dH listed x->x<m->HS.get (n0+x)=(fI n0 s0 E m).H.get (n0+x)
 g2:∀x k b,x<ops.size->(E x).out= .fresh k b->dH listed x->m<=x->HS.get (n0+x)=b
 g3:∀x,x<ops.size->eH E x->¬ dH listed x->HS.get (n0+x)= .dead/\ρ (n0+x)=j_
 g4:∀l,(∀x,x<ops.size->eH E x->l≠n0+x)->HS.get l=(fI n0 s0 E m).H.get l
 rel:Rel c ρ HS w
 ext:Ext DI ρ
 p9:a.tmps.size=s0.nt
 HY:∀i,¬ i<s0.nt->VR ρ (cR s0.t i) undef
 tmp:∀x,x<=ops.size->(x<ops.size->¬ dH listed x)->∀i,(x<ops.size->i∈gA ops (E x).o)->(∀f,f<x->(E f).o.dst=a_ i->dH listed f)->VR ρ (cR (fI n0 s0 E x).t i) (a.tmps.getD i undef)
 df:Gh ρ s0.df a.defers
theorem vO(E)(i):∀d,(∀h,i<=h->h<i+d->¬ dO E h)∨∃h,i<=h/\h<i+d/\dO E h/\∀a,h<a->a<i+d->¬ dO E a
 |0=>Y
 |d+1=>by
  by_cases b:dO E (i+d)
  grind
  ·rcases vO E i d with h|⟨h,h1,c,e,f⟩
   all_goals grind
section
variable {P:Program} {I:ba} {ops:Array Oper} {al:List Nat} {n0 N:Nat} {s0 sf:St} {E:Nat->jI} {c:fw} {DI:Env}
variable (hplan:gP I ops (bz ops)=true) (ht:iI P I ops (bz ops) al n0 N s0 ops.size E sf)
include hplan ht
theorem vP{listed:Array Bool}{ρ ρ':Env}{a:Act}{y:Nat}(r:y<ops.size)(G :¬ dH listed y)(F:∀i,(bz ops).pre i y=true->dH listed i)
  (H:∀b,b<ops.size->dH listed b->∀i,(bz ops).pre i b=true->dH listed i) (I:listed.size=ops.size)
  (h:a.tmps.size=s0.nt) (s:∀u,¬ u<s0.nt->VR ρ (cR s0.t u) undef)
  (l:∀x,x<=ops.size->(x<ops.size->¬ dH listed x)->∀u,(x<ops.size->u∈gA ops (E x).o)->(∀j,j<x->(E j).o.dst=a_ u->dH listed j)->VR ρ (cR (fI n0 s0 E x).t u) (a.tmps.getD u undef))
  (hx:Ext ρ ρ') {v:Value} (J:VR ρ' (E y).val v):
  ∀x,x<=ops.size->(x<ops.size->¬ dH (listed.setIfInBounds y true) x)->∀u,(x<ops.size->u∈gA ops (E x).o)->(∀j,j<x->(E j).o.dst=a_ u->dH (listed.setIfInBounds y true) j)->
   VR ρ' (cR (fI n0 s0 E x).t u) ((a.put (E y).o.dst v).tmps.getD u undef):=by
 have m:∀j,dH (listed.setIfInBounds y true) j↔j=y∨dH listed j:=λj=>by
  unfold dH
  by_cases e:j=y
  simp_all
  ·simp only[M,d_]
   grind
 intro x n K u L N
 have w:x<ops.size->¬ dH listed x:=ZD
 have B:x<ops.size->x≠y:=ZD
 by_cases f:u<s0.nt
 ·by_cases q:(E y).o.dst=a_ u
  ·have c:(a.put (E y).o.dst v).tmps.getD u undef=v:=by
    rw[q]
    simp[Act.put,M,h,f]
   rw[c]
   by_cases P:y<x
   ·
    have k:∀b,y+1<=b->b<(y+1)+(x-(y+1))->(E b).o.dst≠a_ u:=by
     intro b U V Q
     have C:b<ops.size:=O
     have R:dH listed b:=Y
     have:(bz ops).pre y b=true:=mD hplan (tM hplan ht C) (tM hplan ht r) O (.inr (.inl ⟨u,q,by simp[gA,Q]⟩))
     exact Y
    have:=Vg hplan ht (x-(y+1)) (y+1) O k
    have e1:y+1+(x-(y+1))=x:=O
    rw[e1]at this
    rw[this,Tn hplan ht r,if_pos ⟨q,f⟩]
    exact J
   ·have g:x<ops.size:=by omega
    have S:=B g
    have:(bz ops).pre x y=true:=mD hplan (tM hplan ht r) (tM hplan ht g) O Y
    grind
  ·have c:(a.put (E y).o.dst v).tmps.getD u undef=a.tmps.getD u undef:=by
    cases D:(E y).o.dst with
    |none=>rfl
    |some d=>
     have:d≠u:=ZD
     simp only[Act.put,M,d_]
     rw[if_neg this]
   rw[c]
   refine VR.ext hx _ _ (l x n w u L λj T p=>((m j).1 (N j T p)).resolve_left λe=>?_)
   subst e
   exact q p
 ·rw[BE hplan ht f x n]
  have c:(a.put (E y).o.dst v).tmps.getD u undef=undef:=by
   have W:(a.put (E y).o.dst v).tmps.size=s0.nt:=by
    cases D:(E y).o.dst with
    |none=>exact h
    |some d=>simp[Act.put,h]
   rw[M,t_ Y]
   rfl
  rw[c]
  exact VR.ext hx _ _ (s u f)
theorem To{listed:Array Bool}{m:Nat}{ρ:Env}{HS:AH}{a:Act}{w:World}(hN:s0.H.n<=N)(dj:∀l,n0<=l->s0.H.get l= .dead)(eN:∀l,c.E l->l<n0)(hG:c.G=I.G)
  (h:Py ops al n0 N s0 E c DI listed m ρ HS a w) {y:Nat} (hy:y∈Region.ready .any ops listed) {ro:Option Nat} {n:Nat} {K:Act->World->Prop} {Q:Exit->Act->World->Prop}
  (hK:∀m' ρ' er a' w',Py ops al n0 N s0 E c DI (listed.setIfInBounds y true) m' ρ' er a' w'->K a' w'):wpOpIn (WF ro) n P ops Q y K a w:=by
 obtain⟨cc,o,ad,cd⟩:=mem_ready.1 hy
 have F:y<ops.size:=(Array.getElem?_eq_some_iff.1 ad).1
 have ak :¬ dH listed y:=by
  unfold dH
  rw[M,z Y]at cc⊢
  simpa using cc
 have Z:(E y).o=o:=by
  have:=tM hplan ht F
  rw[ad]at this
  exact Y
 have S:∀i,(bz ops).pre i y=true->dH listed i:=Q7 hplan h.closed ad (λe he hb=>cd e he hb)
 have bN:∀p,p<ops.size->dH listed p->∀i,(bz ops).pre i p=true->dH listed i:=λp hz et=>Q7 hplan h.closed (z hz) (h.closed p _ (z hz) et)
 have U:∀j,dH (listed.setIfInBounds y true) j↔j=y∨dH listed j:=λj=>by
  unfold dH
  by_cases e:j=y
  ·subst e
   simp[M,h.size,F]
  ·simp only[M,d_]
   grind
 have ag:(listed.setIfInBounds y true).size=ops.size:=by simp[h.size]
 have W:∀j o,ops[j]? =a_ o->dH (listed.setIfInBounds y true) j->∀e∈o.after,Region.binds .any e=true->dH (listed.setIfInBounds y true) e.on:=by
  intro j o' cf hl e he hb
  refine(U _).2 (.inr ?_)
  rcases(U j).1 hl with rfl|hl
  ·rw[ad]at cf;cases cf
   exact cd e he hb
  ·exact h.closed j o' cf hl e he hb
 have a7:∀u,u∈gA ops o->VR ρ (cR (E y).s.t u) (a.tmps.getD u undef):=by
  intro u hu
  rw[(ht.same y F).t u]
  refine h.tmp y (Nat.le_of_lt F) (λ_=>ak) u ZD λj hj eS=>?_
  have ew:j<ops.size:=O
  exact S j (mD hplan ad (tM hplan ht ew) hj Y)
 have bd:∀x,VR ρ ((E y).s.lk I.G o x) (a.eval x):=by
  intro x
  cases x with
  |tmp u=>
   simp only[St.lk,Act.eval]
   cases hu:sE (D8 o) u with
   |true=>exact a7 u (by simp only[gA,List.mem_append];exact .inl (.inr (vL.1 hu)))
   |false=>simp only[cond_false,VR]
  |const v=>
   simp only[St.lk,St.ev,Sj,Act.eval]
   split
   ·rename_i a ha;exact jZ ρ v a ha
   ·simp only[VR]
  |global g=>
   simp only[St.lk,St.ev,Act.eval]
   cases hg:p_ (Lk g) I.G&&f_ (ux (Lk g)) g with
   |true=>
    rw[bf,l_,Nat.beq_eq]at hg
    obtain⟨N,hN⟩:=h.rel.fp (Lk g) O
    simp only[cond_true,VR]
    exact⟨g,N,by rw[hg.2]at hN;exact hN,zA⟩
   |false=>simp only[cond_false,VR]
  |func f=>simp only[St.lk,St.ev,Act.eval,VR];exact⟨[],[],rfl,zH,zH⟩
 have cg:=ht.ix y F
 have T:=(ht.ok y F).2
 have dk:=Pw hplan ht F
 have R:pq ops (E y)->Region.wanted o (yielded ops a.tmps)=true:=by
  rintro(hg|⟨j,want,d,hg,hd,hv⟩)
  ·rw[Z]at hg;simp[Region.wanted,hg]
  ·rw[Z]at hg
   have:=a7 d (by simp[gA,hg,hd])
   rw[hv]at this
   simp only[VR]at this
   rw[ph hg hd this]
   simp
 have b4:KT ops (E y)->Region.wanted o (yielded ops a.tmps)=false:=by
  rintro⟨j,want,d,hg,hd,hv⟩
  rw[Z]at hg
  have:=a7 d (by simp[gA,hg,hd])
  rcases hv with hv|hv
  ·rw[hv]at this
   simp only[VR]at this
   rw[ph hg hd this]
   cases want<;>rfl
  ·rw[hv]at this
   simp only[VR]at this
   obtain⟨vs,h5,h6⟩:=this
   simp only[aU]at h6
   subst h6
   exact nA hg hd h5
 have ai:Region.wanted o (yielded ops a.tmps)=true->o.wpIn (WF ro) n P a w K Q->wpOpIn (WF ro) n P ops Q y K a w:=λhw hh=>by
  simp only[wpOpIn,ad,hw,if_true];exact hh
 have a8:∀(v:AV)(u:Value)(w':World)(ρ':Env),(E y).val=v->¬ dO E y->¬ eH E y->Ext ρ ρ'->(∀x,x<ops.size->ρ' (n0+x)=ρ (n0+x))->Rel c ρ' HS w'->VR ρ' v u->K (a.put o.dst u) w':=by
  intro v u w' ρ' dn ch cm hx eU hr hv
  have X:=vP hplan ht F ak S bN h.size h.p9 h.HY h.tmp hx (by rw[dn];exact hv)
  rw[Z]at X
  refine hK m ρ' HS _ w' ⟨ag,W,h.Pc,λV=>⟨(h.mh V).1,λhl=>?_⟩,λx bR hh=>(U x).2 (.inr (h.mlt x bR hh)),h.n,h.lo,λx r J hl V=>?_,λx v b r J hl V=>?_,λx r J hl=>?_,h.g4,hr,h.ext.trans hx,?_,λu hu=>VR.ext hx _ _ (h.HY u hu),X,?_⟩
  ·rcases(U m).1 hl with e|hl
   ·rw[e]at V
    exact ch (e▸(h.mh (e▸V)).1)
   ·exact(h.mh V).2 hl
  ·refine h.g1 x r J Y V
  ·exact h.g2 x v b r J (((U x).1 hl).resolve_left λe=>cm (e▸⟨v,b,J⟩)) V
  ·obtain⟨e1,e2⟩:=h.g3 x r J ZD
   grind
  ·cases hd:o.dst with
   |none=>exact h.p9
   |some d=>simp[Act.put,h.p9]
  ·cases hd:o.dst with
   |none=>exact h.df.ext hx
   |some d=>exact h.df.ext hx
 have dr:∀out,(E y).out=out->(∀v H,out≠ .gz v H)->¬ dO E y:=λout ho ez ⟨v,H,e⟩=>Y
 have dt:∀out,(E y).out=out->(∀v b,out≠ .fresh v b)->¬ eH E y:=λout ho ez ⟨v,b,e⟩=>Y
 have D:∀x,x<ops.size->eH E x->x∈al:=λx r J=>by
  rcases kL hplan ht r with⟨_,e,_⟩|⟨_,_,_,_,e,_⟩|⟨e,_⟩
  all_goals grind
 cases B:(E y).out with
 |skip=>
  rw[B]at T
  have hw:=b4 T
  simp only[wpOpIn,ad,hw,kH,if_false]
  exact⟨λ_ _=>trivial,a8 (.qP []) undef w ρ (by simp[jI.val,B]) Y Y (Ext.refl ρ) (λ_ _=>rfl) h.rel vD⟩
 |pure v=>
  rw[B]at T
  obtain⟨hw,_,H',cn,bc,C⟩:=T
  rw[Z]at bc C
  have bK:HS.n<=N:=by rw[h.n];exact Px hplan ht hN m h.Pc
  obtain⟨u,w',ρ',e1,e2,e3,e4,_⟩:=C _ ρ w a.eval bd (h.rel.blank bK)
  obtain⟨f1,f2⟩:=h.rel.Th bK e3 cn
  refine ai (R hw) ⟨iA,?_⟩
  rw[Oper.semAt_eq _ _ _ bc,e1,Oper.uponIn_value]
  refine a8 v u w' ρ' (by simp[jI.val,B]) Y Y f1 (λx hx=>?_) f2 e4
  have dv:=h.lo
  have:n0+x<(HS.up N).n:=y_ O bK
  exact(e3.env (n0+x) this).2
 |read v=>
  rw[B]at T
  obtain⟨hw,_,ep⟩:=T
  have key:∃q:AH,eE P o ((E y).s.lk I.G o) q v/\q.n=HS.n/\∀l,q.get l= .dead∨q.get l=HS.get l:=by
   by_cases cp:m<y
   ·have ap:m<ops.size:=by omega
    obtain⟨⟨u,Hh,V⟩,cr⟩:=h.mh ap
    have hp:(bz ops).pre m y=false:=by
     rw[c_];intro e;exact cr (S m e)
    have hb:=ht.back y m v u Hh F cp B V hp
    rw[Z]at hb
    refine⟨_,hb,by rw[rp,Pw hplan ht ap];exact h.n.symm,λl=>?_⟩
    by_cases hid:Hid (bz ops) n0 y al l
    ·exact .inl ((jJ l).1 hid)
    ·rw[(jJ l).2 hid,Pw hplan ht ap]
     by_cases b0:∃x,x<ops.size/\eH E x/\l=n0+x
     ·obtain⟨x,r,J,rfl⟩:=b0
      have bs:=D x r J
      have a6:(bz ops).pre x y=true:=by
       cases a6:(bz ops).pre x y with
       |true=>rfl
       |false=>exact absurd ⟨x,bs,a6,rfl⟩ hid
      by_cases b5:x<m
      ·exact .inr (h.g1 x r J (S x a6) b5).symm
      ·exact .inl (Gn hplan ht dj bs m h.Pc O)
     ·exact .inr (h.g4 l ZD).symm
   ·have eY:y<m:=by
     rcases v_ y m with e|e
     ·exact e
     ·have:m=y:=by omega
      subst this
      obtain⟨⟨u,Hh,V⟩,_⟩:=h.mh F
      grind
    have ap:=h.Pc
    have stage:∃x,y<=x/\x<=m/\(∀k,x<=k->k<m->¬ dO E k)/\eE P o ((E y).s.lk I.G o) (gQ (bz ops) n0 y al (fI n0 s0 E x).H) v:=by
     rcases vO E y (m-y)with e5|⟨k,h1,h2,h3,h4⟩
     ·grind
     ·obtain⟨u,Hh,hk⟩:=h3
      have dU:y<k:=by
       rcases v_ y k with e|e
       ·exact e
       ·grind
      have cv:k<ops.size:=O
      have hp:(bz ops).pre y k=false:=by
       rw[c_];intro e
       exact ak (bN k cv (h.mlt k O ⟨u,Hh,hk⟩) y e)
      have hb:=ht.R1 y k v u Hh cv dU B hk hp
      rw[Z]at hb
      have e6:Hh=(fI n0 s0 E (k+1)).H:=by
       rcases kL hplan ht cv with⟨e,_,_⟩|⟨e,_⟩|⟨_,v',eA,eB,e1,_,_,e2⟩
       ·exact absurd ⟨u,Hh,hk⟩ e
       ·grind
       ·grind
      grind
    obtain⟨x,e7,bR,e8,eC⟩:=stage
    have e0:x+(m-x)=m:=O
    have b1:=nF hplan ht (m-x) x O ZD
    rw[e0]at b1
    refine⟨_,eC,by rw[rp,h.n,b1],λl=>?_⟩
    by_cases hid:Hid (bz ops) n0 y al l
    ·exact .inl ((jJ l).1 hid)
    ·rw[(jJ l).2 hid]
     by_cases b0:∃p,p<ops.size/\eH E p/\l=n0+p
     ·obtain⟨p,ea,J,rfl⟩:=b0
      have eb:=D p ea J
      have b6:(bz ops).pre p y=true:=by
       cases b6:(bz ops).pre p y with
       |true=>rfl
       |false=>exact absurd ⟨p,eb,b6,rfl⟩ hid
      have e9:=uP hplan F b6
      have hc:=ll hplan ht (l:=n0+p) (m-x) x O ZD O
      rw[e0]at hc
      rw[<-hc]
      exact .inr (h.g1 p ea J (S p b6) O).symm
     ·have hc:=ll hplan ht (l:=l) (m-x) x O ZD Y
      rw[e0]at hc
      rw[<-hc]
      exact .inr (h.g4 l ZD).symm
  obtain⟨q,⟨bc,C⟩,cx,hM⟩:=key
  have cz:=h.rel.xN (L:=λl=>q.get l= .dead) (HM:=q) cx λl=>by
   grind
  obtain⟨u,e1,e2⟩:=C _ ρ w a.eval bd cz
  refine ai (R hw) ⟨iA,?_⟩
  rw[Oper.semAt_eq _ _ _ bc,e1,Oper.uponIn_value]
  exact a8 v u w ρ (by simp[jI.val,B]) Y Y (Ext.refl ρ) (λ_ _=>rfl) h.rel e2
 |fresh v b=>
  rw[B]at T
  obtain⟨hw,_,ed,v0,H',cn,⟨bc,C⟩,hv,hb⟩:=T
  rw[Z]at bc C
  rw[cg]at ed hv hb
  have bK:HS.n<=N:=by rw[h.n];exact Px hplan ht hN m h.Pc
  obtain⟨u,w',ρ',e1,e2,e3,e4,_⟩:=C _ ρ w a.eval bd (h.rel.blank bK)
  have dv:=h.lo
  obtain⟨d1,d2⟩:=h.g3 y F ⟨v,b,B⟩ ak
  obtain⟨ee,off,hx,ef,b7⟩:=h.rel.Ti bK e3 cn (ℓ:=n0+y) O d1 d2 (λe=>Y)
  rw[<-hb]at b7
  have eF:VR ee v u:=by rw[hv];exact VR.bD ef _ _ e4
  refine ai (R hw) ⟨iA,?_⟩
  rw[Oper.semAt_eq _ _ _ bc,e1,Oper.uponIn_value]
  have X:=vP hplan ht F ak S bN h.size h.p9 h.HY h.tmp hx (v:=u) (by simp only[jI.val,B];exact eF)
  rw[Z]at X
  have ch :¬ dO E y:=Y
  refine hK m ee (HS.set (n0+y) b) _ w' ⟨ag,W,h.Pc,λV=>⟨(h.mh V).1,λhl=>?_⟩,λx bR hh=>(U x).2 (.inr (h.mlt x bR hh)),h.n,h.lo,λx r J hl V=>?_,λx v' b' r J hl V=>?_,λx r J hl=>?_,λl hl=>?_,b7,h.ext.trans hx,?_,λu hu=>VR.ext hx _ _ (h.HY u hu),X,?_⟩
  ·rcases(U m).1 hl with e|hl
   ·rw[e]at V
    exact ch (e▸(h.mh (e▸V)).1)
   ·exact(h.mh V).2 hl
  ·by_cases e:x=y
   ·subst e
    rw[i_]
    have hc:=ll hplan ht (l:=n0+x) (m-(x+1)) (x+1) (by have:=h.Pc;omega) (λk h1 h2 hh=>⟨x,ed,by
      rw[c_];intro hp
      have eg:=h.Pc
      exact ak (bN k O (h.mlt k O hh) x hp),rfl⟩) O
    have e0:x+1+(m-(x+1))=m:=O
    rw[e0]at hc
    rw[hc]
    rcases kL hplan ht r with⟨_,e,_⟩|⟨_,v',b',e1,_,e2⟩|⟨e,_⟩
    ·exact absurd J e
    ·rw[B]at e1;cases e1
     rw[e2,i_]
    ·exact absurd J e
   ·rw[D_ _ _ O]
    exact h.g1 x r J Y V
  ·by_cases e:x=y
   ·subst e
    rw[B]at J;cases J
    exact i_ _ _ _
   ·rw[D_ _ _ O]
    exact h.g2 x v' b' r J Y V
  ·have e:x≠y:=by simp_all
   obtain⟨e1,e2⟩:=h.g3 x r J ZD
   exact⟨by rw[D_ _ _ O];exact e1,Y⟩
  ·have e:l≠n0+y:=hl y F ⟨v,b,B⟩
   rw[D_ _ _ (λe'=>e e'.symm)]
   exact h.g4 l hl
  ·cases hd:o.dst with
   |none=>exact h.p9
   |some d=>simp[Act.put,h.p9]
  ·cases hd:o.dst with
   |none=>exact h.df.ext hx
   |some d=>exact h.df.ext hx
 |gz v H2=>
  rw[B]at T
  obtain⟨hw,b8,H',C,b9,fa⟩:=T
  rw[Z]at b8
  rw[cg,dk,Z]at C
  rw[cg,dk]at b9
  have eg:=h.Pc
  have cp:m=y:=by
   rcases Nat.lt_trichotomy m y with e|e|e
   ·have ap:m<ops.size:=by omega
    obtain⟨⟨u,Hh,V⟩,cr⟩:=h.mh ap
    have b3:=(ht.ok m ap).2
    rw[V]at b3
    exact absurd (S m (mD hplan ad (tM hplan ht ap) e Y)) cr
   ·exact e
   ·exact absurd (h.mlt y e ⟨v,H2,B⟩) ak
  subst cp
  have cx:(gQ (bz ops) n0 m al (fI n0 s0 E m).H).n=HS.n:=by rw[rp];exact h.n.symm
  have cz:=h.rel.xN (L:=Hid (bz ops) n0 m al) cx λl=>by
   by_cases hid:Hid (bz ops) n0 m al l
   ·exact .inl ⟨hid,(jJ l).1 hid⟩
   ·refine .inr ⟨hid,?_⟩
    rw[(jJ l).2 hid]
    by_cases b0:∃x,x<ops.size/\eH E x/\l=n0+x
    ·obtain⟨x,r,J,rfl⟩:=b0
     have a6:(bz ops).pre x m=true:=by
      cases a6:(bz ops).pre x m with
      |true=>rfl
      |false=>exact absurd ⟨x,D x r J,a6,rfl⟩ hid
     exact(h.g1 x r J (S x a6) (uP hplan F a6)).symm
    ·exact(h.g4 l ZD).symm
  refine ai (R hw) (C ro n (c.xN ρ HS w (Hid (bz ops) n0 m al)) ρ w a K Q hG bd cz (λv2 H3 u w' ρ' e hx ei hv=>?_) zA)
  cases e
  obtain⟨_,b7⟩:=h.rel.KH (L:=Hid (bz ops) n0 m al) (H2:=ff (bz ops) n0 m HS al H') ei OJ λl=>by
   by_cases hid:Hid (bz ops) n0 m al l
   ·exact .inl ⟨hid,(ck l).1 hid⟩
   ·exact .inr ⟨hid,(ck l).2 hid⟩
  have eM:∀l,l<HS.n->l<H'.n/\ρ' l=ρ l:=λl hl=>ei.env l hl
  have fo:HS.n<=H'.n:=Y
  obtain⟨m',k1,k2,k3,k4⟩:=Vh E ops.size (ops.size-(m+1)) (m+1) O
  have e0:m+1+(m'-(m+1))=m':=O
  have eG:(fI n0 s0 E (m+1)).H=H2:=by
   rcases kL hplan ht F with⟨e,_,_⟩|⟨e,_⟩|⟨_,v',eA,eB,e1,_,_,e2⟩
   ·exact absurd ⟨v,H2,B⟩ e
   ·grind
   ·grind
  have b1:=nF hplan ht (m'-(m+1)) (m+1) O ZD
  rw[e0,eG,b9,OJ]at b1
  have ej:∀l,(∀a,m+1<=a->a<m'->eH E a->l≠n0+a)->(fI n0 s0 E m').H.get l=H2.get l:=λl hl=>by
   have:=ll hplan ht (l:=l) (m'-(m+1)) (m+1) O ZD Y
   grind
  have X:=vP hplan ht F ak S bN h.size h.p9 h.HY h.tmp hx (v:=u) (by simp only[jI.val,B];exact hv)
  rw[Z]at X
  have cm :¬ eH E m:=Y
  have dv:=h.lo
  have c6:∀x,(bz ops).pre x m=true->x<m:=λx hp=>uP hplan F hp
  refine hK m' ρ' (ff (bz ops) n0 m HS al H') _ w' ⟨ag,W,k2,λV=>⟨k3 V,λhl=>?_⟩,λx bR hh=>?_,?_,?_,λx r J hl V=>?_,λx v' b' r J hl V=>?_,λx r J hl=>?_,λl hl=>?_,b7,h.ext.trans hx,?_,λu hu=>VR.ext hx _ _ (h.HY u hu),X,?_⟩
  ·obtain⟨u',Hh,eL⟩:=k3 V
   have b3:=(ht.ok m' V).2
   rw[eL]at b3
   have hp:=mD hplan (tM hplan ht V) ad O Y
   grind
  ·by_cases e:x<m
   ·exact(U x).2 (.inr (h.mlt x e hh))
   grind
  ·rw[OJ,b1]
  ·rw[OJ];omega
  ·have b5:x≠m:=λe=>cm (e▸J)
   have ek:=((U x).1 hl).resolve_left b5
   have bs:=D x r J
   by_cases en:x<m
   ·rw[ej _ O,b9]
    by_cases hid:Hid (bz ops) n0 m al (n0+x)
    ·rw[(ck _).1 hid,(ck _).1 hid]
     exact h.g1 x r J ek en
    ·rw[(ck _).2 hid,(ck _).2 hid]
   ·have hid:Hid (bz ops) n0 m al (n0+x):=⟨x,bs,by
     rw[c_];intro hp;exact en (c6 x hp),rfl⟩
    rw[(ck _).1 hid]
    obtain⟨v',b',dd⟩:=J
    rw[h.g2 x v' b' r dd ek O]
    have hc:=ll hplan ht (l:=n0+x) (m'-(x+1)) (x+1) O (λk h1 h2 hh=>Y) O
    have e1:x+1+(m'-(x+1))=m':=O
    rw[e1]at hc
    rw[hc]
    rcases kL hplan ht r with⟨_,e,_⟩|⟨_,v2,b2,e1,_,e2⟩|⟨e,_⟩
    ·exact absurd ⟨v',b',dd⟩ e
    ·rw[dd]at e1;cases e1
     rw[e2,i_]
    grind
  ·have b5:x≠m:=by omega
   have hid:Hid (bz ops) n0 m al (n0+x):=⟨x,D x r ⟨v',b',J⟩,by
    grind,rfl⟩
   rw[(ck _).1 hid]
   exact h.g2 x v' b' r J Y O
  ·have eo :¬ dH listed x:=by simp_all
   have hid:Hid (bz ops) n0 m al (n0+x):=⟨x,D x r J,by
    rw[c_];intro hp;exact eo (S x hp),rfl⟩
   obtain⟨e1,e2⟩:=h.g3 x r J eo
   exact⟨by rw[(ck _).1 hid];exact e1,Y⟩
  ·rw[ej l Y,b9]
   by_cases hid:Hid (bz ops) n0 m al l
   ·rw[(ck _).1 hid,(ck _).1 hid]
    exact h.g4 l hl
   ·rw[(ck _).2 hid,(ck _).2 hid]
  ·cases hd:o.dst with
   |none=>exact h.p9
   |some d=>simp[Act.put,h.p9]
  ·cases hd:o.dst with
   |none=>exact h.df.ext hx
   |some d=>exact h.df.ext hx
end
end
section
set_option linter.unusedSectionVars false
theorem V6{I}:∀{os i t o},os[t]? =a_ o->Vx I o= .vK->sD o=true->i+t∈lO I i os
 |[],i,t,o,h,_,_=>by simp at h
 |b::os,i,t,o,h,h1,a=>by
  cases t with
  |zero=>
   simp only[s_,fE]at h
   subst h
   simp only[lO,h1,a,cond_true,E_]
   simp
  |succ t=>
   simp only[List.getElem?_cons_succ]at h
   have:=V6 (i:=i+1) h h1 a
   have e:i+(t+1)=i+1+t:=O
   rw[e]
   simp only[lO]
   grind
section
variable {P:Program} {I:ba} {ops:Array Oper} {al:List Nat} {n0 N:Nat} {s0 sf:St} {E:Nat->jI} {c:fw} {DI:Env}
variable (hplan:gP I ops (bz ops)=true) (ht:iI P I ops (bz ops) al n0 N s0 ops.size E sf)
include hplan ht
theorem KW{listed m ρ j a w}(h:Py ops al n0 N s0 E c DI listed m ρ j a w)(d:∀i,i<ops.size->dH listed i):(aQ.n sf).post c DI .normal a w:=by
 have k:m=ops.size:=by
  have:=h.Pc
  rcases v_ m ops.size with e|e
  ·exact absurd (d m e) (h.mh e).2
  ·omega
 subst k
 have b:=ht.last
 refine⟨ρ,h.ext,⟨by rw[b,KV hplan ht _ (dw _)];exact h.p9,λu=>?_⟩,?_,by rw[b,R2 hplan ht _ (dw _)];exact h.df⟩
 ·rw[b]
  exact h.tmp ops.size (dw _) (λe=>O) u (λe=>O) Y
 ·rw[b]
  refine h.rel.congr h.n.symm λl=>?_
  by_cases g:∃x,x<ops.size/\eH E x/\l=n0+x
  ·obtain⟨x,f,o,rfl⟩:=g
   exact(h.g1 x f o (d x f) f).symm
  ·exact(h.g4 l ZD).symm
theorem BF{listed}(b:listed.size=ops.size)(g:Region.ready .any ops listed=[]):∀i,i<ops.size->dH listed i:=by
 intro i
 induction i using q_ with
 |_ i c=>
  intro hi
  apply h_
  intro hn
  have:i∈Region.ready .any ops listed:=by
   refine mem_ready.2 ⟨?_,ops[i],z hi,λe d f=>?_⟩
   ·unfold dH at hn
    grind
   ·have a:=iZ hplan (z hi) d f
    exact c e.on a O
  grind
theorem R3{ro n}(C:s0.H.n<=N)(d:∀l,n0<=l->s0.H.get l= .dead)(k:∀l,c.E l->l<n0)(hG:c.G=I.G):∀(fuel)(f:List Nat)(listed)(m)(ρ)(r)(a) (w),
  f.length=fuel->f.Nodup->(∀i,i<ops.size->(¬ dH listed i↔i∈f))->(∀i,i∈f->i<ops.size)->Py ops al n0 N s0 E c DI listed m ρ r a w->
  wpAnyIn (WF ro) n P .any ops ((aQ.n sf).post c DI) fuel listed a w
 |0,f,listed,m,ρ,r,a,w,hl,_,D,_,h=>by
  have p:f=[]:=Y
  subst p
  have g:∀i,i<ops.size->dH listed i:=ZD
  refine⟨?_,KW hplan ht h g⟩
  cases s:Region.ready .any ops listed with
  |nil=>rfl
  |cons y Q=>
   have q:y∈Region.ready .any ops listed:=by rw[s];exact o_
   obtain⟨t,o,u,_⟩:=mem_ready.1 q
   have b:=(Array.getElem?_eq_some_iff.1 u).1
   have:=g y b
   unfold dH at this
   grind
 |fuel+1,f,listed,m,ρ,r,a,w,hl,v,D,J,h=>by
  refine⟨λs=>KW hplan ht h (BF hplan ht h.size s),λy q=>?_⟩
  refine To hplan ht C d k hG h q λK ρ' x a' w' L=>?_
  obtain⟨t,o,u,_⟩:=mem_ready.1 q
  have b:=(Array.getElem?_eq_some_iff.1 u).1
  have B :¬ dH listed y:=by
   unfold dH
   rw[M,z Y]at t⊢
   simpa using t
  have O:=(D y b).1 B
  have F:∀j,dH (listed.setIfInBounds y true) j↔j=y∨dH listed j:=λj=>by
   unfold dH
   by_cases e:j=y
   ·subst e
    simp[M,h.size,b]
   ·simp only[M,d_]
    grind
  refine R3 C d k hG fuel (f.erase y) _ K ρ' x a' w' ?_ (v.erase y) (λi hi=>?_) (λi hi=>Y) L
  all_goals grind
end
section
variable {R:Type} {X:RI R} {sem:R->Prop} (hX:X.Ok sem) {I:ba} {P:Program} (hI:I.Ok P)
include hX hI in
theorem sG(N:Nat){r:iQ R}{round:gZ R}(B:gN P I sem r)(f:Ke P I sem round){ops:Array Oper}{k:KS R}{s:St}(h:sem (drawn X I N r round ops k s)):
  ∃sf,sem (k.n sf)/\∀ro n c ρ a w,c.G=I.G->cA c ρ s a w->wpAnyIn (WF ro) n P .any ops ((aQ.n sf).post c ρ) ops.size (k_ ops.size false) a {w with drawn:=w.drawn+1}:=by
 unfold drawn at h
 cases hp:gP I ops (PM.of ops.toList {n:=0,l:=[]})&&B_ (s.H.n+ops.size) N with
 |false=>rw[hp]at h;exact zR
 |true=>
  rw[hp]at h
  simp only[bf]at hp
  obtain⟨hplan,Y⟩:=hp
  have hplan:gP I ops (bz ops)=true:=hplan
  have Y:s.H.n+ops.size<=N:=jX Y
  have T:Gj I ops (lO I 0 ops.toList):=λi o ho hc U=>by
   obtain⟨u,V,rfl⟩:=hc
   have:=V6 (I:=I) (i:=0) (os:=ops.toList) (t:=i) (by simpa using ho) V U
   simpa using this
  obtain⟨s0,d⟩:∃s0,s0=s.heap (s.H.up (s.H.n+ops.size)):=⟨_,rfl⟩
  have t0:iI P I ops (bz ops) (lO I 0 ops.toList) s.H.n N s0 0 (λ_=>{ix:=0,o:=default,s:=s0,out:=.skip}) s0 :=
   ⟨λj S=>O,λj S=>O,λj S=>O,rfl,λj h v u Hh S=>O,λj h v u Hh S=>O⟩
  obtain⟨sf,E,g,ht⟩:=Gk hX hI B f T (p:=bz ops) (K:=k.n) ops.toList 0 s0 _ rfl (w_ _) t0 (by rw[d];exact h)
  refine⟨sf,g,λro n c ρ a w hG q=>?_⟩
  have C:Rel c ρ s0.H {w with drawn:=w.drawn+1}:=by
   rw[d];exact(q.heap.up (Nat.le_add_right _ _)).drawn _
  have D:s0.nt=s.nt:=by rw[d];rfl
  have F:s0.t=s.t:=by rw[d];rfl
  have J:s0.df=s.df:=by rw[d];rfl
  have ad:s0.H.n=s.H.n+ops.size:=by rw[d];rfl
  have y:∀l,s.H.n<=l->s0.H.get l= .dead:=λl hl=>by rw[d];exact q.heap.low l hl
  obtain⟨m,_,k2,k3,W⟩:=Vh E ops.size ops.size 0 O
  have e:∀i,¬ dH (k_ ops.size false) i:=λi=>by
   unfold dH
   rw[M,Array.getElem?_replicate]
   by_cases hi:i<ops.size<;>simp[hi]
  have Z:0+(m-0)=m:=O
  have L:=nF hplan ht (m-0) 0 O λh g Q=>W h g O
  rw[Z]at L
  refine R3 hplan ht O y (λl hl=>(q.heap.env l hl).1) hG ops.size (e_ ops.size) _ m ρ s0.H a _ zA List.nodup_range (λi hi=>?_) (λi hi=>List.mem_range.1 hi) ?_
  ·exact⟨λ_=>List.mem_range.2 hi,λ_=>e i⟩
  ·refine⟨zA,λj o _ hl=>absurd hl (e j),k2,λU=>⟨k3 U,e m⟩,λh g Q=>absurd Q (W h (w_ _) g),L.symm,O,λx _ _ hl=>absurd hl (e x),λx v b _ _ hl=>absurd hl (e x),λx hx hf _=>⟨y _ O,q.heap.top _ O⟩,λl hl=>?_,C,Ext.refl ρ,by rw[D];exact q.tmp.1,λu V=>?_,λx hx _ u _ hw=>?_,by rw[J];exact q.df⟩
   ·have:=ll hplan ht (l:=l) (m-0) 0 O (λk g Q hh=>absurd hh (W k g O)) (λa g Q hf=>hl a O hf)
    rw[Z]at this
    exact this.symm
   ·have:=q.tmp.2 u
    rw[F]
    have e1:a.tmps.getD u undef=undef:=by
     rw[M,t_ (by rw[q.tmp.1,<-D];exact C_ V)]
     rfl
    rw[e1]at this
    exact this
   ·have:=Vg hplan ht (u:=u) (x-0) 0 O λj g Q hd=>e j (hw j O hd)
    have e1:0+(x-0)=x:=O
    rw[e1]at this
    rw[this]
    show VR ρ (cR s0.t u) _
    rw[F]
    exact q.tmp.2 u
include hX hI in
theorem KX(N:Nat):ou P I sem (drawn X I N):=by
 intro e round d b ops k s h
 obtain⟨sf,f,g⟩:=sG hX hI N d b h
 exact⟨.n sf,f,λro n c ρ a w id hG i=>wpIn_region_any hI.mixed (g ro n c ρ a w hG i)⟩
end
end
end
end Go.Sx
