/- CertifyOpens is proved, part 8. -/
import Derived.Test.YtleifmkjbmhlpaaGreatDoorX07
set_option linter.unusedVariables false
set_option linter.unusedSimpArgs false
set_option linter.unusedSectionVars false
section
namespace Go.Sx
open Go
theorem PM.at_cons {p:PM} (hl:p.l.length=p.n) (m:Nat) {j:Nat} (hj:j<p.n): ({n:=p.n+1,l:=m::p.l}: PM).at j=p.at j:=by
 simp only [PM.at]
 have:p.n+1-1-j=(p.n-1-j)+1:=by omega
 rw [this]
 simp
theorem PM.at_new (p:PM) (m:Nat): ({n:=p.n+1,l:=m::p.l}: PM).at p.n=m:=by
 simp [PM.at]
theorem PM.of_spec : ∀ (os:List Oper) (p:PM),p.l.length=p.n→(PM.of os p).l.length=(PM.of os p).n∧(PM.of os p).n=p.n+os.length∧(∀ j,j<p.n→(PM.of os p).at j=p.at j)∧
  ∀ t o,os[t]? =some o→ ∃ q:PM,(∀ i,i<p.n+t→q.at i=(PM.of os p).at i)∧(PM.of os p).at (p.n+t)=edgeMask q o.after.toList
 | [],p,h=>⟨h,rfl,fun _ _=>rfl,fun t o e=>by simp at e⟩
 | o::os,p,h=>by
  simp only [PM.of,forceN_eq]
  have ih:=PM.of_spec os {n:=p.n+1,l:=edgeMask p o.after.toList::p.l} (by simp [h])
  obtain ⟨i1,i2,i3,i4⟩:=ih
  refine ⟨i1,by rw [i2];simp;omega,fun j hj=>?_,fun t o' e=>?_⟩
  ·rw [i3 j (by simp;omega)]
   exact PM.at_cons h _ hj
  ·cases t with
   | zero=>
    simp only [List.getElem?_cons_zero,Option.some.injEq] at e
    subst e
    refine ⟨p,fun i hi=>?_,?_⟩
    ·rw [i3 i (by simp;omega)]
     exact (PM.at_cons h _ (by omega)).symm
    ·rw [i3 (p.n+0) (by simp)]
     exact PM.at_new p _
   | succ t=>
    simp only [List.getElem?_cons_succ] at e
    obtain ⟨q,k1,k2⟩:=i4 t o' e
    have e1:p.n+(t+1)=p.n+1+t:=by omega
    rw [e1]
    exact ⟨q,k1,k2⟩
theorem edgeMask_bit {p:PM} {i:Nat}: ∀ {es:List Edge},(edgeMask p es).testBit i=true→ ∃ e∈es,Region.binds .any e=true∧(i=e.on∨(p.at e.on).testBit i=true):=by
 intro es
 have key : ∀ (es:List Edge) (s:Nat),(es.foldl (fun s e=>bif Region.binds .any e then s ||| 2^e.on ||| p.at e.on else s) s).testBit i=true→s.testBit i=true∨ ∃ e∈es,Region.binds .any e=true∧(i=e.on∨(p.at e.on).testBit i=true):=by
  intro es
  induction es with
  | nil=>intro s h;exact .inl h
  | cons e es ih=>
   intro s h
   simp only [List.foldl_cons] at h
   rcases ih _ h with h1 | ⟨e',he',h2⟩
   ·cases hb:Region.binds .any e with
    | false=>rw [hb] at h1;exact .inl h1
    | true=>
     rw [hb] at h1
     simp only [cond_true,Nat.testBit_or,Bool.or_eq_true] at h1
     rcases h1 with (h1 | h1) | h1
     ·exact .inl h1
     ·rw [Nat.testBit_two_pow] at h1
      exact .inr ⟨e,List.mem_cons_self,hb,.inl (by have:=of_decide_eq_true h1;exact this.symm)⟩
     ·exact .inr ⟨e,List.mem_cons_self,hb,.inr h1⟩
   ·exact .inr ⟨e',List.mem_cons_of_mem _ he',h2⟩
 intro h
 rcases key es 0 h with h | h
 ·simp at h
 ·exact h
def planOf (ops:Array Oper): PM:=PM.of ops.toList {n:=0,l:=[]}
section
variable {I:Info} {ops:Array Oper} (hplan:planOk I ops (planOf ops)=true)
include hplan
theorem plan_edge {j:Nat} {o:Oper} (ho:ops[j]? =some o) {e:Edge} (he:e∈o.after) (hb:Region.binds .any e=true): e.on<j:=by
 simp only [planOk,Bool.and_eq_true] at hplan
 have h1:=List.all_eq_true.1 hplan.1 (o,j) (List.mem_zipIdx_iff_getElem?.2 (by simpa using ho))
 have h2:=List.all_eq_true.1 h1 e (by simpa using he)
 simp only [hb,Bool.not_true,Bool.false_or,Nat.blt_eq] at h2
 exact h2
theorem plan_pre {i j:Nat} (hj:j<ops.size) (h:(planOf ops).pre i j=true): ∃ o e,ops[j]? =some o∧e∈o.after∧Region.binds .any e=true∧(i=e.on∨(planOf ops).pre i e.on=true):=by
 have ho:ops[j]? =some ops[j]:=Array.getElem?_eq_getElem hj
 obtain ⟨_,_,_,h4⟩:=PM.of_spec ops.toList {n:=0,l:=[]} rfl
 obtain ⟨q,k1,k2⟩:=h4 j ops[j] (by simp)
 simp only [Nat.zero_add] at k1 k2
 unfold PM.pre planOf at h
 rw [k2] at h
 obtain ⟨e,he,hb,h5⟩:=edgeMask_bit h
 have he':e∈ops[j].after:=by simpa using he
 refine ⟨ops[j],e,ho,he',hb,h5.imp id fun h6=>?_⟩
 unfold PM.pre planOf
 rw [←k1 e.on (plan_edge hplan ho he' hb)]
 exact h6
theorem plan_lt : ∀ {j i:Nat},j<ops.size→(planOf ops).pre i j=true→i<j:=by
 intro j
 induction j using Nat.strongRecOn with
 | _ j ih=>
  intro i hj h
  obtain ⟨o,e,ho,he,hb,h1⟩:=plan_pre hplan hj h
  have hlt:=plan_edge hplan ho he hb
  rcases h1 with rfl | h1
  ·exact hlt
  ·exact Nat.lt_trans (ih e.on hlt (by omega) h1) hlt
theorem plan_pair {x y:Nat} {ox oy:Oper} (hx:ops[x]? =some ox) (hy:ops[y]? =some oy) (hlt:y<x):
  ((isHeavy I ox=true∧isHeavy I oy=true)∨(∃ d,oy.dst=some d∧d∈namesOf ops ox)∨(∃ d,ox.dst=some d∧d∈namesOf ops oy))→(planOf ops).pre y x=true:=by
 simp only [planOk,Bool.and_eq_true] at hplan
 have h1:=List.all_eq_true.1 hplan.2 (ox,x) (List.mem_zipIdx_iff_getElem?.2 (by simpa using hx))
 have h2:=List.all_eq_true.1 h1 (oy,y) (List.mem_zipIdx_iff_getElem?.2 (by simpa using hy))
 have hb:Nat.blt y x=true:=by rw [Nat.blt_eq];exact hlt
 simp only [hb,Bool.not_true,Bool.false_or,Bool.and_eq_true] at h2
 obtain ⟨⟨h3,h4⟩,h5⟩:=h2
 rintro (⟨a,b⟩ | ⟨d,a,b⟩ | ⟨d,a,b⟩)
 ·rw [a,b] at h3;simpa using h3
 ·rw [a] at h4
  have:(namesOf ops ox).contains d=true:=by simpa using b
  simpa only [this,Bool.not_true,Bool.false_or] using h4
 ·rw [a] at h5
  have:(namesOf ops oy).contains d=true:=by simpa using b
  simpa only [this,Bool.not_true,Bool.false_or] using h5
theorem plan_closed {listed:Nat→Prop} (hc : ∀ j o,ops[j]? =some o→listed j→ ∀ e∈o.after,Region.binds .any e=true→listed e.on):
  ∀ {j:Nat} {o:Oper},ops[j]? =some o→(∀ e∈o.after,Region.binds .any e=true→listed e.on)→ ∀ i,(planOf ops).pre i j=true→listed i:=by
 intro j
 induction j using Nat.strongRecOn with
 | _ j ih=>
  intro o ho hall i h
  have hj:=(Array.getElem?_eq_some_iff.1 ho).1
  obtain ⟨o',e,ho',he,hb,h1⟩:=plan_pre hplan hj h
  rw [ho] at ho'
  cases ho'
  have hlt:=plan_edge hplan ho he hb
  have hle:=hall e he hb
  rcases h1 with rfl | h1
  ·exact hle
  ·have hon:ops[e.on]? =some ops[e.on]:=Array.getElem?_eq_getElem (by omega)
   exact ih e.on hlt hon (hc _ _ hon hle) i h1
end
def Hid (p:PM) (n0 i:Nat) (al:List Nat) (l:Nat): Prop := ∃ a∈al,p.pre a i=false∧l=n0+a
theorem maskL_n {p:PM} {n0 i:Nat} {H:AH}: ∀ {al:List Nat},(maskL p n0 i al H).n=H.n
 | []=>rfl
 | a::as=>by
  simp only [maskL]
  cases p.pre a i with
  | true=>exact maskL_n
  | false=>exact maskL_n
theorem maskL_get {p:PM} {n0 i:Nat} {H:AH}: ∀ {al:List Nat} (l:Nat),(Hid p n0 i al l→(maskL p n0 i al H).get l= .dead)∧(¬ Hid p n0 i al l→(maskL p n0 i al H).get l=H.get l)
 | [],l=>⟨fun h=>(by obtain ⟨_,h,_⟩:=h;cases h),fun _=>rfl⟩
 | a::as,l=>by
  have ih:=maskL_get (p:=p) (n0:=n0) (i:=i) (H:=H) (al:=as) l
  simp only [maskL]
  cases hp:p.pre a i with
  | true=>
   simp only [cond_true]
   have:Hid p n0 i (a::as) l↔Hid p n0 i as l:=by
    constructor
    ·rintro ⟨b,hb,h1,h2⟩
     rcases List.mem_cons.1 hb with rfl | hb
     ·rw [hp] at h1;cases h1
     ·exact ⟨b,hb,h1,h2⟩
    ·rintro ⟨b,hb,h⟩
     exact ⟨b,List.mem_cons_of_mem _ hb,h⟩
   rw [this]
   exact ih
  | false=>
   simp only [cond_false,AH.get_set]
   by_cases hl:l=n0+a
   ·rw [if_pos hl]
    exact ⟨fun _=>rfl,fun h=>absurd ⟨a,List.mem_cons_self,hp,hl⟩ h⟩
   ·rw [if_neg hl]
    have:Hid p n0 i (a::as) l↔Hid p n0 i as l:=by
     constructor
     ·rintro ⟨b,hb,h1,h2⟩
      rcases List.mem_cons.1 hb with rfl | hb
      ·exact absurd h2 hl
      ·exact ⟨b,hb,h1,h2⟩
     ·rintro ⟨b,hb,h⟩
      exact ⟨b,List.mem_cons_of_mem _ hb,h⟩
    rw [this]
    exact ih
theorem restoreL_n {p:PM} {n0 i:Nat} {H H':AH}: ∀ {al:List Nat},(restoreL p n0 i H al H').n=H'.n
 | []=>rfl
 | a::as=>by
  simp only [restoreL]
  cases p.pre a i with
  | true=>exact restoreL_n
  | false=>exact restoreL_n
theorem restoreL_get {p:PM} {n0 i:Nat} {H H':AH}: ∀ {al:List Nat} (l:Nat),(Hid p n0 i al l→(restoreL p n0 i H al H').get l=H.get l)∧(¬ Hid p n0 i al l→(restoreL p n0 i H al H').get l=H'.get l)
 | [],l=>⟨fun h=>(by obtain ⟨_,h,_⟩:=h;cases h),fun _=>rfl⟩
 | a::as,l=>by
  have ih:=restoreL_get (p:=p) (n0:=n0) (i:=i) (H:=H) (H':=H') (al:=as) l
  simp only [restoreL]
  cases hp:p.pre a i with
  | true=>
   simp only [cond_true]
   have:Hid p n0 i (a::as) l↔Hid p n0 i as l:=by
    constructor
    ·rintro ⟨b,hb,h1,h2⟩
     rcases List.mem_cons.1 hb with rfl | hb
     ·rw [hp] at h1;cases h1
     ·exact ⟨b,hb,h1,h2⟩
    ·rintro ⟨b,hb,h⟩
     exact ⟨b,List.mem_cons_of_mem _ hb,h⟩
   rw [this]
   exact ih
  | false=>
   simp only [cond_false,AH.get_set]
   by_cases hl:l=n0+a
   ·rw [if_pos hl]
    exact ⟨fun _=>by rw [hl],fun h=>absurd ⟨a,List.mem_cons_self,hp,hl⟩ h⟩
   ·rw [if_neg hl]
    have:Hid p n0 i (a::as) l↔Hid p n0 i as l:=by
     constructor
     ·rintro ⟨b,hb,h1,h2⟩
      rcases List.mem_cons.1 hb with rfl | hb
      ·exact absurd h2 hl
      ·exact ⟨b,hb,h1,h2⟩
     ·rintro ⟨b,hb,h⟩
      exact ⟨b,List.mem_cons_of_mem _ hb,h⟩
    rw [this]
    exact ih
end Go.Sx
end
section
namespace Go.Sx
open Go
def Ent.val (e:Ent): AV :=
 match e.out with
 | .skip=> .tup []
 | .pure v=>v
 | .fresh v _=>v
 | .read v=>v
 | .heavy v _=>v
def heavyOut (E:Nat→Ent) (i:Nat): Prop := ∃ v H,(E i).out= .heavy v H
def freshOut (E:Nat→Ent) (i:Nat): Prop := ∃ v b,(E i).out= .fresh v b
theorem St.put_H (s:St) (d:Option Tmp) (a:AV): (s.put d a).H=s.H:=by
 cases s
 cases d with
 | none=>rfl
 | some i=>simp only [St.put];cases Nat.blt i _<;>rfl
theorem St.put_nt (s:St) (d:Option Tmp) (a:AV): (s.put d a).nt=s.nt:=by
 cases s
 cases d with
 | none=>rfl
 | some i=>simp only [St.put];cases Nat.blt i _<;>rfl
theorem St.put_df (s:St) (d:Option Tmp) (a:AV): (s.put d a).df=s.df:=by
 cases s
 cases d with
 | none=>rfl
 | some i=>simp only [St.put];cases Nat.blt i _<;>rfl
theorem St.put_t (s:St) (d:Option Tmp) (a:AV) (u:Nat): tget (s.put d a).t u=if d=some u∧u<s.nt then a else tget s.t u:=by
 cases d with
 | none=>simp [St.put]
 | some i=>
  cases hi:Nat.blt i s.nt with
  | true=>
   simp only [St.put,hi,cond_true,tget_set]
   rw [Nat.blt_eq] at hi
   by_cases hu:u=i
   ·subst hu;simp [hi]
   ·have : ¬ (some i=some u):=fun e=>hu (by cases e;rfl)
    simp [hu,this]
  | false=>
   have hi' : ¬ i<s.nt:=fun e=>by rw [←Nat.blt_eq,hi] at e;cases e
   simp only [St.put,hi,cond_false]
   rw [if_neg]
   rintro ⟨e,h⟩
   cases e
   exact hi' h
theorem Ent.next_t (e:Ent) (n0 u:Nat): tget (e.next n0).t u=if e.o.dst=some u∧u<e.s.nt then e.val else tget e.s.t u:=by
 unfold Ent.next Ent.val
 cases e.out<;>simp only [St.put_t,St.heap]<;>rfl
theorem Ent.next_nt (e:Ent) (n0:Nat): (e.next n0).nt=e.s.nt:=by
 unfold Ent.next
 cases e.out<;>simp only [St.put_nt,St.heap]
theorem Ent.next_df (e:Ent) (n0:Nat): (e.next n0).df=e.s.df:=by
 unfold Ent.next
 cases e.out<;>simp only [St.put_df,St.heap]
theorem stAt_succ (n0:Nat) (s0:St) (E:Nat→Ent) (i:Nat): stAt n0 s0 E (i+1)=(E i).next n0:=rfl
set_option linter.unusedSectionVars false
section
variable {P:Program} {I:Info} {ops:Array Oper} {al:List Nat} {n0 N:Nat} {s0 sf:St} {E:Nat→Ent}
variable (hplan:planOk I ops (planOf ops)=true) (ht:TraceOk P I ops (planOf ops) al n0 N s0 ops.size E sf)
include hplan ht
theorem tr_H {i:Nat} (hi:i<ops.size): (E i).s.H=(stAt n0 s0 E i).H:=(ht.same i hi).H
theorem tr_op {i:Nat} (hi:i<ops.size): ops[i]? =some (E i).o:=by
 have:=(ht.ok i hi).1
 rwa [ht.ix i hi] at this
theorem tr_nt : ∀ i,i≤ops.size→(stAt n0 s0 E i).nt=s0.nt
 | 0,_=>rfl
 | i+1,hi=>by
  rw [stAt_succ,Ent.next_nt,(ht.same i (by omega)).nt]
  exact tr_nt i (by omega)
theorem tr_df : ∀ i,i≤ops.size→(stAt n0 s0 E i).df=s0.df
 | 0,_=>rfl
 | i+1,hi=>by
  rw [stAt_succ,Ent.next_df,(ht.same i (by omega)).df]
  exact tr_df i (by omega)
theorem tr_t {i:Nat} (hi:i<ops.size) (u:Nat): tget (stAt n0 s0 E (i+1)).t u=if (E i).o.dst=some u∧u<s0.nt then (E i).val else tget (stAt n0 s0 E i).t u:=by
 rw [stAt_succ,Ent.next_t,(ht.same i hi).t u,(ht.same i hi).nt,tr_nt hplan ht i (by omega)]
theorem tr_t_const {u:Nat}: ∀ (d i:Nat),i+d≤ops.size→(∀ j,i≤j→j<i+d→(E j).o.dst≠some u)→tget (stAt n0 s0 E (i+d)).t u=tget (stAt n0 s0 E i).t u
 | 0,i,_,_=>rfl
 | d+1,i,hi,h=>by
  have e:i+(d+1)=(i+d)+1:=by omega
  rw [e,tr_t hplan ht (by omega),if_neg (fun hh=>h (i+d) (by omega) (by omega) hh.1)]
  exact tr_t_const d i (by omega) fun j h1 h2=>h j h1 (by omega)
theorem tr_t_out {u:Nat} (hu : ¬ u<s0.nt): ∀ i,i≤ops.size→tget (stAt n0 s0 E i).t u=tget s0.t u
 | 0,_=>rfl
 | i+1,hi=>by
  rw [tr_t hplan ht (by omega),if_neg (fun h=>hu h.2)]
  exact tr_t_out hu i (by omega)
theorem tr_step {i:Nat} (hi:i<ops.size): (¬ heavyOut E i∧ ¬ freshOut E i∧(stAt n0 s0 E (i+1)).H=(stAt n0 s0 E i).H)∨
  (¬ heavyOut E i∧ ∃ v b,(E i).out= .fresh v b∧i∈al∧(stAt n0 s0 E (i+1)).H=(stAt n0 s0 E i).H.set (n0+i) b)∨
  (¬ freshOut E i∧ ∃ v H2 H',(E i).out= .heavy v H2∧H2=restoreL (planOf ops) n0 i (stAt n0 s0 E i).H al H'∧H'.n≤N∧(stAt n0 s0 E (i+1)).H=H2):=by
 have hok:=(ht.ok i hi).2
 have hix:=ht.ix i hi
 have hH:=tr_H hplan ht hi
 have hout : ∀ o,(E i).out=o→(stAt n0 s0 E (i+1)).H=(match o with | .fresh _ b=>(stAt n0 s0 E i).H.set (n0+i) b | .heavy _ H=>H | _=>(stAt n0 s0 E i).H):=by
  intro o ho
  rw [stAt_succ]
  simp only [Ent.next,ho]
  cases o<;>simp only [St.put_H,St.heap,hix,hH]
 cases ho:(E i).out with
 | skip=>exact .inl ⟨(fun ⟨_,_,e⟩=>by rw [ho] at e;cases e),(fun ⟨_,_,e⟩=>by rw [ho] at e;cases e),hout _ ho⟩
 | pure v=>exact .inl ⟨(fun ⟨_,_,e⟩=>by rw [ho] at e;cases e),(fun ⟨_,_,e⟩=>by rw [ho] at e;cases e),hout _ ho⟩
 | read v=>exact .inl ⟨(fun ⟨_,_,e⟩=>by rw [ho] at e;cases e),(fun ⟨_,_,e⟩=>by rw [ho] at e;cases e),hout _ ho⟩
 | fresh v b=>
  rw [ho] at hok
  exact .inr (.inl ⟨(fun ⟨_,_,e⟩=>by rw [ho] at e;cases e),v,b,rfl,by rw [←hix];exact hok.2.2.1,hout _ ho⟩)
 | heavy v H2=>
  rw [ho] at hok
  obtain ⟨_,_,H',_,h2,h3⟩:=hok
  rw [hix,hH] at h2
  exact .inr (.inr ⟨(fun ⟨_,_,e⟩=>by rw [ho] at e;cases e),v,H2,H',rfl,h2,h3,hout _ ho⟩)
theorem tr_n (h0:s0.H.n≤N): ∀ i,i≤ops.size→(stAt n0 s0 E i).H.n≤N
 | 0,_=>h0
 | i+1,hi=>by
  rcases tr_step hplan ht (show i<ops.size by omega) with ⟨_,_,e⟩ | ⟨_,v,b,_,_,e⟩ | ⟨_,v,H2,H',_,e1,e2,e⟩
  ·rw [e];exact tr_n h0 i (by omega)
  ·rw [e];exact tr_n h0 i (by omega)
  ·rw [e,e1,restoreL_n];exact e2
theorem tr_dead (hlow : ∀ l,n0≤l→s0.H.get l= .dead) {a:Nat} (ha:a∈al): ∀ i,i≤ops.size→i≤a→(stAt n0 s0 E i).H.get (n0+a)= .dead
 | 0,_,_=>hlow _ (by omega)
 | i+1,hi,hia=>by
  have ih:=tr_dead hlow ha i (by omega) (by omega)
  rcases tr_step hplan ht (show i<ops.size by omega) with ⟨_,_,e⟩ | ⟨_,v,b,_,_,e⟩ | ⟨_,v,H2,H',_,e1,e2,e⟩
  ·rw [e];exact ih
  ·rw [e,AH.get_set,if_neg (by omega)];exact ih
  ·rw [e,e1]
   have hp:(planOf ops).pre a i=false:=by
    rw [Bool.eq_false_iff]
    intro hp
    have:=plan_lt hplan (show i<ops.size by omega) hp
    omega
   rw [(restoreL_get _).1 ⟨a,ha,hp,rfl⟩]
   exact ih
theorem tr_const {l:Nat}: ∀ (d i:Nat),i+d≤ops.size→(∀ h,i≤h→h<i+d→heavyOut E h→Hid (planOf ops) n0 h al l)→(∀ a,i≤a→a<i+d→freshOut E a→l≠n0+a)→
  (stAt n0 s0 E (i+d)).H.get l=(stAt n0 s0 E i).H.get l
 | 0,i,_,_,_=>rfl
 | d+1,i,hi,hh,hf=>by
  have e0:i+(d+1)=(i+d)+1:=by omega
  have ih:=tr_const d i (by omega) (fun h h1 h2=>hh h h1 (by omega)) (fun a h1 h2=>hf a h1 (by omega))
  rw [e0]
  rcases tr_step hplan ht (show i+d<ops.size by omega) with ⟨_,_,e⟩ | ⟨_,v,b,ho,_,e⟩ | ⟨_,v,H2,H',ho,e1,e2,e⟩
  ·rw [e];exact ih
  ·rw [e,AH.get_set,if_neg (hf (i+d) (by omega) (by omega) ⟨v,b,ho⟩)];exact ih
  ·rw [e,e1,(restoreL_get _).1 (hh (i+d) (by omega) (by omega) ⟨v,H2,ho⟩)]
   exact ih
theorem tr_const_n : ∀ (d i:Nat),i+d≤ops.size→(∀ h,i≤h→h<i+d→ ¬ heavyOut E h)→(stAt n0 s0 E (i+d)).H.n=(stAt n0 s0 E i).H.n
 | 0,i,_,_=>rfl
 | d+1,i,hi,hh=>by
  have e0:i+(d+1)=(i+d)+1:=by omega
  have ih:=tr_const_n d i (by omega) (fun h h1 h2=>hh h h1 (by omega))
  rw [e0]
  rcases tr_step hplan ht (show i+d<ops.size by omega) with ⟨_,_,e⟩ | ⟨_,v,b,ho,_,e⟩ | ⟨_,v,H2,H',ho,e1,e2,e⟩
  ·rw [e];exact ih
  ·rw [e];exact ih
  ·exact absurd ⟨v,H2,ho⟩ (hh (i+d) (by omega) (by omega))
end
theorem next_heavy (E:Nat→Ent) (k:Nat): ∀ (d i:Nat),i+d=k→ ∃ m,i≤m∧m≤k∧(m<k→heavyOut E m)∧ ∀ h,i≤h→h<m→ ¬ heavyOut E h
 | 0,i,h=>⟨i,Nat.le_refl _,by omega,fun hlt=>by omega,fun h h1 h2=>by omega⟩
 | d+1,i,h=>by
  by_cases hi:heavyOut E i
  ·exact ⟨i,Nat.le_refl _,by omega,fun _=>hi,fun h h1 h2=>by omega⟩
  ·obtain ⟨m,h1,h2,h3,h4⟩:=next_heavy E k d (i+1) (by omega)
   refine ⟨m,by omega,h2,h3,fun h h5 h6=>?_⟩
   by_cases e:h=i
   ·subst e;exact hi
   ·exact h4 h (by omega) h6
end Go.Sx
end
section
namespace Go.Sx
open Go
set_option linter.unusedSectionVars false
def Lst (listed:Array Bool) (i:Nat): Prop:=listed.getD i false=true
structure DInv (ops:Array Oper) (al:List Nat) (n0 N:Nat) (s0:St) (E:Nat→Ent) (c:Ctx) (ρ0:Env) (listed:Array Bool) (m:Nat) (ρ:Env) (HS:AH) (a:Act) (w:World): Prop where
 size:listed.size=ops.size
 closed : ∀ j o,ops[j]? =some o→Lst listed j→ ∀ e∈o.after,Region.binds .any e=true→Lst listed e.on
 mle:m≤ops.size
 mh:m<ops.size→heavyOut E m∧ ¬ Lst listed m
 mlt : ∀ h,h<m→heavyOut E h→Lst listed h
 n:HS.n=(stAt n0 s0 E m).H.n
 lo:n0+ops.size≤HS.n
 g1 : ∀ x,x<ops.size→freshOut E x→Lst listed x→x<m→HS.get (n0+x)=(stAt n0 s0 E m).H.get (n0+x)
 g2 : ∀ x v b,x<ops.size→(E x).out= .fresh v b→Lst listed x→m≤x→HS.get (n0+x)=b
 g3 : ∀ x,x<ops.size→freshOut E x→ ¬ Lst listed x→HS.get (n0+x)= .dead∧ρ (n0+x)=none
 g4 : ∀ l,(∀ x,x<ops.size→freshOut E x→l≠n0+x)→HS.get l=(stAt n0 s0 E m).H.get l
 rel:Rel c ρ HS w
 ext:Ext ρ0 ρ
 tsize:a.tmps.size=s0.nt
 tout : ∀ u,¬ u<s0.nt→VR ρ (tget s0.t u) undef
 tmp : ∀ x,x≤ops.size→(x<ops.size→ ¬ Lst listed x)→ ∀ u,(x<ops.size→u∈namesOf ops (E x).o)→(∀ j,j<x→(E j).o.dst=some u→Lst listed j)→VR ρ (tget (stAt n0 s0 E x).t u) (a.tmps.getD u undef)
 df:DfR ρ s0.df a.defers
theorem last_heavy (E:Nat→Ent) (i:Nat): ∀ d,(∀ h,i≤h→h<i+d→ ¬ heavyOut E h)∨ ∃ h,i≤h∧h<i+d∧heavyOut E h∧ ∀ h',h<h'→h'<i+d→ ¬ heavyOut E h'
 | 0=> .inl fun h h1 h2=>by omega
 | d+1=>by
  by_cases hd:heavyOut E (i+d)
  ·exact .inr ⟨i+d,by omega,by omega,hd,fun h' h1 h2=>by omega⟩
  ·rcases last_heavy E i d with h | ⟨h,h1,h2,h3,h4⟩
   ·refine .inl fun h' h1 h2=>?_
    by_cases e:h'=i+d
    ·subst e;exact hd
    ·exact h h' h1 (by omega)
   ·refine .inr ⟨h,h1,by omega,h3,fun h' h5 h6=>?_⟩
    by_cases e:h'=i+d
    ·subst e;exact hd
    ·exact h4 h' h5 (by omega)
section
variable {P:Program} {I:Info} {ops:Array Oper} {al:List Nat} {n0 N:Nat} {s0 sf:St} {E:Nat→Ent} {c:Ctx} {ρ0:Env}
variable (hplan:planOk I ops (planOf ops)=true) (ht:TraceOk P I ops (planOf ops) al n0 N s0 ops.size E sf)
include hplan ht
theorem tmp_step {listed:Array Bool} {ρ ρ':Env} {a:Act} {y:Nat} (hy:y<ops.size) (hun : ¬ Lst listed y) (hpre : ∀ i,(planOf ops).pre i y=true→Lst listed i)
  (hcl : ∀ z,z<ops.size→Lst listed z→ ∀ i,(planOf ops).pre i z=true→Lst listed i) (hsz:listed.size=ops.size)
  (hts:a.tmps.size=s0.nt) (hto : ∀ u,¬ u<s0.nt→VR ρ (tget s0.t u) undef)
  (htmp : ∀ x,x≤ops.size→(x<ops.size→ ¬ Lst listed x)→ ∀ u,(x<ops.size→u∈namesOf ops (E x).o)→(∀ j,j<x→(E j).o.dst=some u→Lst listed j)→VR ρ (tget (stAt n0 s0 E x).t u) (a.tmps.getD u undef))
  (hx:Ext ρ ρ') {v:Value} (hv:VR ρ' (E y).val v):
  ∀ x,x≤ops.size→(x<ops.size→ ¬ Lst (listed.setIfInBounds y true) x)→ ∀ u,(x<ops.size→u∈namesOf ops (E x).o)→(∀ j,j<x→(E j).o.dst=some u→Lst (listed.setIfInBounds y true) j)→
   VR ρ' (tget (stAt n0 s0 E x).t u) ((a.put (E y).o.dst v).tmps.getD u undef):=by
 have hset : ∀ j,Lst (listed.setIfInBounds y true) j↔j=y∨Lst listed j:=fun j=>by
  unfold Lst
  by_cases e:j=y
  ·subst e
   simp [Array.getD_eq_getD_getElem?,hsz,hy]
  ·simp only [Array.getD_eq_getD_getElem?,Array.getElem?_setIfInBounds]
   rw [if_neg (fun e'=>e e'.symm)]
   simp [e]
 intro x hxk hxu u hu hw
 have hxl:x<ops.size→ ¬ Lst listed x:=fun h hl=>hxu h ((hset x).2 (.inr hl))
 have hxy:x<ops.size→x≠y:=fun h e=>hxu h ((hset x).2 (.inl e))
 by_cases hun':u<s0.nt
 ·by_cases hd:(E y).o.dst=some u
  ·have hval:(a.put (E y).o.dst v).tmps.getD u undef=v:=by
    rw [hd]
    simp [Act.put,Array.getD_eq_getD_getElem?,hts,hun']
   rw [hval]
   by_cases hlt:y<x
   ·
    have hnone : ∀ z,y+1≤z→z<(y+1)+(x-(y+1))→(E z).o.dst≠some u:=by
     intro z h1 h2 hz
     have hzk:z<ops.size:=by omega
     have hzl:Lst listed z:=((hset z).1 (hw z (by omega) hz)).resolve_left (by omega)
     have:(planOf ops).pre y z=true:=plan_pair hplan (tr_op hplan ht hzk) (tr_op hplan ht hy) (by omega) (.inr (.inl ⟨u,hd,by simp [namesOf,hz]⟩))
     exact hun (hcl z hzk hzl y this)
    have:=tr_t_const hplan ht (x-(y+1)) (y+1) (by omega) hnone
    have e1:y+1+(x-(y+1))=x:=by omega
    rw [e1] at this
    rw [this,tr_t hplan ht hy,if_pos ⟨hd,hun'⟩]
    exact hv
   ·have hxk':x<ops.size:=by omega
    have hne:=hxy hxk'
    have:(planOf ops).pre x y=true:=plan_pair hplan (tr_op hplan ht hy) (tr_op hplan ht hxk') (by omega) (.inr (.inr ⟨u,hd,hu hxk'⟩))
    exact absurd (hpre x this) (hxl hxk')
  ·have hval:(a.put (E y).o.dst v).tmps.getD u undef=a.tmps.getD u undef:=by
    cases hdd:(E y).o.dst with
    | none=>rfl
    | some d=>
     have:d≠u:=fun e=>hd (by rw [hdd,e])
     simp only [Act.put,Array.getD_eq_getD_getElem?,Array.getElem?_setIfInBounds]
     rw [if_neg this]
   rw [hval]
   refine VR.ext hx _ _ (htmp x hxk hxl u hu fun j hj hjd=>((hset j).1 (hw j hj hjd)).resolve_left fun e=>?_)
   subst e
   exact hd hjd
 ·rw [tr_t_out hplan ht hun' x hxk]
  have hval:(a.put (E y).o.dst v).tmps.getD u undef=undef:=by
   have hs:(a.put (E y).o.dst v).tmps.size=s0.nt:=by
    cases hdd:(E y).o.dst with
    | none=>exact hts
    | some d=>simp [Act.put,hts]
   rw [Array.getD_eq_getD_getElem?,Array.getElem?_eq_none (by rw [hs];exact Nat.le_of_not_lt hun')]
   rfl
  rw [hval]
  exact VR.ext hx _ _ (hto u hun')
theorem d_step {listed:Array Bool} {m:Nat} {ρ:Env} {HS:AH} {a:Act} {w:World} (hN:s0.H.n≤N) (hlow : ∀ l,n0≤l→s0.H.get l= .dead) (hE0 : ∀ l,c.E l→l<n0) (hG:c.G=I.G)
  (h:DInv ops al n0 N s0 E c ρ0 listed m ρ HS a w) {y:Nat} (hy:y∈Region.ready .any ops listed) {ro:Option Nat} {n:Nat} {K:Act→World→Prop} {Q:Exit→Act→World→Prop}
  (hK : ∀ m' ρ' HS' a' w',DInv ops al n0 N s0 E c ρ0 (listed.setIfInBounds y true) m' ρ' HS' a' w'→K a' w'): wpOpIn (WF ro) n P ops Q y K a w:=by
 obtain ⟨hunl,o,hoy,hall⟩:=mem_ready.1 hy
 have hyk:y<ops.size:=(Array.getElem?_eq_some_iff.1 hoy).1
 have hun : ¬ Lst listed y:=by
  unfold Lst
  rw [Array.getD_eq_getD_getElem?,Array.getElem?_eq_getElem (by rw [h.size];exact hyk)] at hunl⊢
  simpa using hunl
 have hoE:(E y).o=o:=by
  have:=tr_op hplan ht hyk
  rw [hoy] at this
  exact (Option.some.inj this).symm
 have hpre : ∀ i,(planOf ops).pre i y=true→Lst listed i:=plan_closed hplan h.closed hoy (fun e he hb=>hall e he hb)
 have hcl : ∀ z,z<ops.size→Lst listed z→ ∀ i,(planOf ops).pre i z=true→Lst listed i:=fun z hz hzl=>plan_closed hplan h.closed (Array.getElem?_eq_getElem hz) (h.closed z _ (Array.getElem?_eq_getElem hz) hzl)
 have hset : ∀ j,Lst (listed.setIfInBounds y true) j↔j=y∨Lst listed j:=fun j=>by
  unfold Lst
  by_cases e:j=y
  ·subst e
   simp [Array.getD_eq_getD_getElem?,h.size,hyk]
  ·simp only [Array.getD_eq_getD_getElem?,Array.getElem?_setIfInBounds]
   rw [if_neg (fun e'=>e e'.symm)]
   simp [e]
 have hsize':(listed.setIfInBounds y true).size=ops.size:=by simp [h.size]
 have hclosed' : ∀ j o,ops[j]? =some o→Lst (listed.setIfInBounds y true) j→ ∀ e∈o.after,Region.binds .any e=true→Lst (listed.setIfInBounds y true) e.on:=by
  intro j o' ho' hl e he hb
  refine (hset _).2 (.inr ?_)
  rcases (hset j).1 hl with rfl | hl
  ·rw [hoy] at ho';cases ho'
   exact hall e he hb
  ·exact h.closed j o' ho' hl e he hb
 have named : ∀ u,u∈namesOf ops o→VR ρ (tget (E y).s.t u) (a.tmps.getD u undef):=by
  intro u hu
  rw [(ht.same y hyk).t u]
  refine h.tmp y (Nat.le_of_lt hyk) (fun _=>hun) u (fun _=>by rw [hoE];exact hu) fun j hj hjd=>?_
  have hjk:j<ops.size:=by omega
  exact hpre j (plan_pair hplan hoy (tr_op hplan ht hjk) hj (.inr (.inl ⟨u,hjd,hu⟩)))
 have hops : ∀ x,VR ρ ((E y).s.evOf I.G o x) (a.eval x):=by
  intro x
  cases x with
  | tmp u=>
   simp only [St.evOf,Act.eval]
   cases hu:memN (opTmps o) u with
   | true=>exact named u (by simp only [namesOf,List.mem_append];exact .inl (.inr (memN_iff.1 hu)))
   | false=>simp only [cond_false,VR]
  | const v=>
   simp only [St.evOf,St.ev,constAV,Act.eval]
   split
   ·rename_i a ha;exact ofVal_ok ρ v a ha
   ·simp only [VR]
  | global g=>
   simp only [St.evOf,St.ev,Act.eval]
   cases hg:Nat.blt g I.G with
   | true=>
    rw [Nat.blt_eq] at hg
    obtain ⟨N,hN⟩:=h.rel.glob g (by omega)
    simp only [cond_true,VR]
    exact ⟨g,N,hN,by simp⟩
   | false=>simp only [cond_false,VR]
  | func f=>simp only [St.evOf,St.ev,Act.eval,VR];exact ⟨[],[],rfl,by simp [VRs],by simp [VRs]⟩
 have hix:=ht.ix y hyk
 have hokE:=(ht.ok y hyk).2
 have hHy:=tr_H hplan ht hyk
 have wantedOf:WantedE ops (E y)→Region.wanted o (yielded ops a.tmps)=true:=by
  rintro (hg | ⟨j,want,d,hg,hd,hv⟩)
  ·rw [hoE] at hg;simp [Region.wanted,hg]
  ·rw [hoE] at hg
   have:=named d (by simp [namesOf,hg,hd])
   rw [hv] at this
   simp only [VR] at this
   rw [wanted_of hg hd this]
   simp
 have skipOf:SkipE ops (E y)→Region.wanted o (yielded ops a.tmps)=false:=by
  rintro ⟨j,want,d,hg,hd,hv⟩
  rw [hoE] at hg
  have:=named d (by simp [namesOf,hg,hd])
  rcases hv with hv | hv
  ·rw [hv] at this
   simp only [VR] at this
   rw [wanted_of hg hd this]
   cases want<;>rfl
  ·rw [hv] at this
   simp only [VR] at this
   obtain ⟨vs,h5,h6⟩:=this
   simp only [VRs] at h6
   subst h6
   exact wanted_undef hg hd h5
 have opRun:Region.wanted o (yielded ops a.tmps)=true→o.wpIn (WF ro) n P a w K Q→wpOpIn (WF ro) n P ops Q y K a w:=fun hw hh=>by
  simp only [wpOpIn,hoy,hw,if_true];exact hh
 have quiet : ∀ (v:AV) (u:Value) (w':World) (ρ':Env),(E y).val=v→ ¬ heavyOut E y→ ¬ freshOut E y→Ext ρ ρ'→(∀ x,x<ops.size→ρ' (n0+x)=ρ (n0+x))→Rel c ρ' HS w'→VR ρ' v u→K (a.put o.dst u) w':=by
  intro v u w' ρ' hval hnh hnf hx hρ hr hv
  have htmp:=tmp_step hplan ht hyk hun hpre hcl h.size h.tsize h.tout h.tmp hx (by rw [hval];exact hv)
  rw [hoE] at htmp
  refine hK m ρ' HS _ w' ⟨hsize',hclosed',h.mle,fun hm=>⟨(h.mh hm).1,fun hl=>?_⟩,fun x hx2 hh=>(hset x).2 (.inr (h.mlt x hx2 hh)),h.n,h.lo,fun x hxk hf hl hm=>?_,fun x v b hxk hf hl hm=>?_,fun x hxk hf hl=>?_,h.g4,hr,h.ext.trans hx,?_,fun u hu=>VR.ext hx _ _ (h.tout u hu),htmp,?_⟩
  ·rcases (hset m).1 hl with e | hl
   ·rw [e] at hm
    exact hnh (e▸(h.mh (e▸hm)).1)
   ·exact (h.mh hm).2 hl
  ·refine h.g1 x hxk hf (((hset x).1 hl).resolve_left fun e=>hnf (e▸hf)) hm
  ·exact h.g2 x v b hxk hf (((hset x).1 hl).resolve_left fun e=>hnf (e▸⟨v,b,hf⟩)) hm
  ·obtain ⟨e1,e2⟩:=h.g3 x hxk hf fun hl'=>hl ((hset x).2 (.inr hl'))
   exact ⟨e1,(hρ x hxk).trans e2⟩
  ·cases hd:o.dst with
   | none=>exact h.tsize
   | some d=>simp [Act.put,h.tsize]
  ·cases hd:o.dst with
   | none=>exact h.df.ext hx
   | some d=>exact h.df.ext hx
 have noHeavy : ∀ out,(E y).out=out→(∀ v H,out≠ .heavy v H)→ ¬ heavyOut E y:=fun out ho hne ⟨v,H,e⟩=>hne v H (by rw [←ho,e])
 have noFresh : ∀ out,(E y).out=out→(∀ v b,out≠ .fresh v b)→ ¬ freshOut E y:=fun out ho hne ⟨v,b,e⟩=>hne v b (by rw [←ho,e])
 have freshAl : ∀ x,x<ops.size→freshOut E x→x∈al:=fun x hxk hf=>by
  rcases tr_step hplan ht hxk with ⟨_,e,_⟩ | ⟨_,_,_,_,e,_⟩ | ⟨e,_⟩
  ·exact absurd hf e
  ·exact e
  ·exact absurd hf e
 cases hout:(E y).out with
 | skip=>
  rw [hout] at hokE
  have hw:=skipOf hokE
  simp only [wpOpIn,hoy,hw,Bool.false_eq_true,if_false]
  exact ⟨fun _ _=>trivial,quiet (.tup []) undef w ρ (by simp [Ent.val,hout]) (noHeavy _ hout (by simp)) (noFresh _ hout (by simp)) (Ext.refl ρ) (fun _ _=>rfl) h.rel VR_undef⟩
 | pure v=>
  rw [hout] at hokE
  obtain ⟨hw,_,H',hn',hdf,hfact⟩:=hokE
  rw [hoE] at hdf hfact
  have hNS:HS.n≤N:=by rw [h.n];exact tr_n hplan ht hN m h.mle
  obtain ⟨u,w',ρ',e1,e2,e3,e4,_⟩:=hfact _ ρ w a.eval hops (h.rel.blank hNS)
  obtain ⟨f1,f2⟩:=h.rel.light0 hNS e3 hn'
  refine opRun (wantedOf hw) ⟨wf_about,?_⟩
  rw [Oper.semAt_eq _ _ _ hdf,e1,Oper.uponIn_value]
  refine quiet v u w' ρ' (by simp [Ent.val,hout]) (noHeavy _ hout (by simp)) (noFresh _ hout (by simp)) f1 (fun x hx=>?_) f2 e4
  have hlo:=h.lo
  have:n0+x<(HS.up N).n:=Nat.lt_of_lt_of_le (by omega) hNS
  exact (e3.env (n0+x) this).2
 | read v=>
  rw [hout] at hokE
  obtain ⟨hw,_,hdfact⟩:=hokE
  have key : ∃ M:AH,ReadFact P o ((E y).s.evOf I.G o) M v∧M.n=HS.n∧ ∀ l,M.get l= .dead∨M.get l=HS.get l:=by
   by_cases hmy:m<y
   ·have hmk:m<ops.size:=by omega
    obtain ⟨⟨u,Hh,hm⟩,hml⟩:=h.mh hmk
    have hp:(planOf ops).pre m y=false:=by
     rw [Bool.eq_false_iff];intro e;exact hml (hpre m e)
    have hb:=ht.back y m v u Hh hyk hmy hout hm hp
    rw [hoE] at hb
    refine ⟨_,hb,by rw [maskL_n,tr_H hplan ht hmk];exact h.n.symm,fun l=>?_⟩
    by_cases hid:Hid (planOf ops) n0 y al l
    ·exact .inl ((maskL_get l).1 hid)
    ·rw [(maskL_get l).2 hid,tr_H hplan ht hmk]
     by_cases hfr : ∃ x,x<ops.size∧freshOut E x∧l=n0+x
     ·obtain ⟨x,hxk,hf,rfl⟩:=hfr
      have hxal:=freshAl x hxk hf
      have hpx:(planOf ops).pre x y=true:=by
       cases hpx:(planOf ops).pre x y with
       | true=>rfl
       | false=>exact absurd ⟨x,hxal,hpx,rfl⟩ hid
      by_cases hxm:x<m
      ·exact .inr (h.g1 x hxk hf (hpre x hpx) hxm).symm
      ·exact .inl (tr_dead hplan ht hlow hxal m h.mle (by omega))
     ·exact .inr (h.g4 l fun x hxk hf e=>hfr ⟨x,hxk,hf,e⟩).symm
   ·have hym:y<m:=by
     rcases Nat.lt_or_ge y m with e | e
     ·exact e
     ·have:m=y:=by omega
      subst this
      obtain ⟨⟨u,Hh,hm⟩,_⟩:=h.mh hyk
      rw [hout] at hm;cases hm
    have hmk:=h.mle
    have stage : ∃ x,y≤x∧x≤m∧(∀ k,x≤k→k<m→ ¬ heavyOut E k)∧ReadFact P o ((E y).s.evOf I.G o) (maskL (planOf ops) n0 y al (stAt n0 s0 E x).H) v:=by
     rcases last_heavy E y (m-y) with hno | ⟨k,h1,h2,h3,h4⟩
     ·refine ⟨y,Nat.le_refl _,Nat.le_of_lt hym,fun k h1 h2=>hno k h1 (by omega),?_⟩
      rw [hix,hHy,hoE] at hdfact
      exact hdfact
     ·obtain ⟨u,Hh,hk⟩:=h3
      have hyk2:y<k:=by
       rcases Nat.lt_or_ge y k with e | e
       ·exact e
       ·have:k=y:=by omega
        subst this
        rw [hout] at hk;cases hk
      have hkk:k<ops.size:=by omega
      have hp:(planOf ops).pre y k=false:=by
       rw [Bool.eq_false_iff];intro e
       exact hun (hcl k hkk (h.mlt k (by omega) ⟨u,Hh,hk⟩) y e)
      have hb:=ht.forth y k v u Hh hkk hyk2 hout hk hp
      rw [hoE] at hb
      have hHk:Hh=(stAt n0 s0 E (k+1)).H:=by
       rcases tr_step hplan ht hkk with ⟨e,_,_⟩ | ⟨e,_⟩ | ⟨_,v',H2',H'',e1,_,_,e2⟩
       ·exact absurd ⟨u,Hh,hk⟩ e
       ·exact absurd ⟨u,Hh,hk⟩ e
       ·rw [hk] at e1;cases e1;exact e2.symm
      rw [hHk] at hb
      exact ⟨k+1,by omega,by omega,fun j h5 h6=>h4 j (by omega) (by omega),hb⟩
    obtain ⟨x,hx1,hx2,hx3,hx4⟩:=stage
    have e0:x+(m-x)=m:=by omega
    have hcn:=tr_const_n hplan ht (m-x) x (by omega) fun k h1 h2=>hx3 k h1 (by omega)
    rw [e0] at hcn
    refine ⟨_,hx4,by rw [maskL_n,h.n,hcn],fun l=>?_⟩
    by_cases hid:Hid (planOf ops) n0 y al l
    ·exact .inl ((maskL_get l).1 hid)
    ·rw [(maskL_get l).2 hid]
     by_cases hfr : ∃ z,z<ops.size∧freshOut E z∧l=n0+z
     ·obtain ⟨z,hzk,hf,rfl⟩:=hfr
      have hzal:=freshAl z hzk hf
      have hpz:(planOf ops).pre z y=true:=by
       cases hpz:(planOf ops).pre z y with
       | true=>rfl
       | false=>exact absurd ⟨z,hzal,hpz,rfl⟩ hid
      have hzy:=plan_lt hplan hyk hpz
      have hc:=tr_const hplan ht (l:=n0+z) (m-x) x (by omega) (fun k h1 h2 hh=>absurd hh (hx3 k h1 (by omega))) (fun a h1 h2 _=>by omega)
      rw [e0] at hc
      rw [←hc]
      exact .inr (h.g1 z hzk hf (hpre z hpz) (by omega)).symm
     ·have hc:=tr_const hplan ht (l:=l) (m-x) x (by omega) (fun k h1 h2 hh=>absurd hh (hx3 k h1 (by omega))) (fun a h1 h2 hf e=>hfr ⟨a,by omega,hf,e⟩)
      rw [e0] at hc
      rw [←hc]
      exact .inr (h.g4 l fun x hxk hf e=>hfr ⟨x,hxk,hf,e⟩).symm
  obtain ⟨M,⟨hdf,hfact⟩,hMn,hM⟩:=key
  have hrM:=h.rel.mask (L:=fun l=>M.get l= .dead) (HM:=M) hMn fun l=>by
   by_cases e:M.get l= .dead
   ·exact .inl ⟨e,e⟩
   ·exact .inr ⟨e,(hM l).resolve_left e⟩
  obtain ⟨u,e1,e2⟩:=hfact _ ρ w a.eval hops hrM
  refine opRun (wantedOf hw) ⟨wf_about,?_⟩
  rw [Oper.semAt_eq _ _ _ hdf,e1,Oper.uponIn_value]
  exact quiet v u w ρ (by simp [Ent.val,hout]) (noHeavy _ hout (by simp)) (noFresh _ hout (by simp)) (Ext.refl ρ) (fun _ _=>rfl) h.rel e2
 | fresh v b=>
  rw [hout] at hokE
  obtain ⟨hw,_,hal,v0,H',hn',⟨hdf,hfact⟩,hv,hb⟩:=hokE
  rw [hoE] at hdf hfact
  rw [hix] at hal hv hb
  have hNS:HS.n≤N:=by rw [h.n];exact tr_n hplan ht hN m h.mle
  obtain ⟨u,w',ρ',e1,e2,e3,e4,_⟩:=hfact _ ρ w a.eval hops (h.rel.blank hNS)
  have hlo:=h.lo
  obtain ⟨d1,d2⟩:=h.g3 y hyk ⟨v,b,hout⟩ hun
  obtain ⟨ρ2,off,hx,hren,hr2⟩:=h.rel.light1 hNS e3 hn' (ℓ:=n0+y) (by omega) d1 d2 (fun e=>by have:=hE0 _ e;omega)
  rw [←hb] at hr2
  have hvr:VR ρ2 v u:=by rw [hv];exact VR.ren hren _ _ e4
  refine opRun (wantedOf hw) ⟨wf_about,?_⟩
  rw [Oper.semAt_eq _ _ _ hdf,e1,Oper.uponIn_value]
  have htmp:=tmp_step hplan ht hyk hun hpre hcl h.size h.tsize h.tout h.tmp hx (v:=u) (by simp only [Ent.val,hout];exact hvr)
  rw [hoE] at htmp
  have hnh : ¬ heavyOut E y:=noHeavy _ hout (by simp)
  refine hK m ρ2 (HS.set (n0+y) b) _ w' ⟨hsize',hclosed',h.mle,fun hm=>⟨(h.mh hm).1,fun hl=>?_⟩,fun x hx2 hh=>(hset x).2 (.inr (h.mlt x hx2 hh)),h.n,h.lo,fun x hxk hf hl hm=>?_,fun x v' b' hxk hf hl hm=>?_,fun x hxk hf hl=>?_,fun l hl=>?_,hr2,h.ext.trans hx,?_,fun u hu=>VR.ext hx _ _ (h.tout u hu),htmp,?_⟩
  ·rcases (hset m).1 hl with e | hl
   ·rw [e] at hm
    exact hnh (e▸(h.mh (e▸hm)).1)
   ·exact (h.mh hm).2 hl
  ·by_cases e:x=y
   ·subst e
    rw [AH.get_set_same]
    have hc:=tr_const hplan ht (l:=n0+x) (m-(x+1)) (x+1) (by have:=h.mle;omega) (fun k h1 h2 hh=>⟨x,hal,by
      rw [Bool.eq_false_iff];intro hp
      have hmle:=h.mle
      exact hun (hcl k (by omega) (h.mlt k (by omega) hh) x hp),rfl⟩) (fun a h1 h2 _=>by omega)
    have e0:x+1+(m-(x+1))=m:=by omega
    rw [e0] at hc
    rw [hc]
    rcases tr_step hplan ht hxk with ⟨_,e,_⟩ | ⟨_,v',b',e1,_,e2⟩ | ⟨e,_⟩
    ·exact absurd hf e
    ·rw [hout] at e1;cases e1
     rw [e2,AH.get_set_same]
    ·exact absurd hf e
   ·rw [AH.get_set_ne _ _ (by omega)]
    exact h.g1 x hxk hf (((hset x).1 hl).resolve_left e) hm
  ·by_cases e:x=y
   ·subst e
    rw [hout] at hf;cases hf
    exact AH.get_set_same _ _ _
   ·rw [AH.get_set_ne _ _ (by omega)]
    exact h.g2 x v' b' hxk hf (((hset x).1 hl).resolve_left e) hm
  ·have e:x≠y:=fun e=>hl ((hset x).2 (.inl e))
   obtain ⟨e1,e2⟩:=h.g3 x hxk hf fun hl'=>hl ((hset x).2 (.inr hl'))
   exact ⟨by rw [AH.get_set_ne _ _ (by omega)];exact e1,by rw [off _ (by omega)];exact e2⟩
  ·have e:l≠n0+y:=hl y hyk ⟨v,b,hout⟩
   rw [AH.get_set_ne _ _ (fun e'=>e e'.symm)]
   exact h.g4 l hl
  ·cases hd:o.dst with
   | none=>exact h.tsize
   | some d=>simp [Act.put,h.tsize]
  ·cases hd:o.dst with
   | none=>exact h.df.ext hx
   | some d=>exact h.df.ext hx
 | heavy v H2=>
  rw [hout] at hokE
  obtain ⟨hw,hheavy,H',hfact,hH2,hHN⟩:=hokE
  rw [hoE] at hheavy
  rw [hix,hHy,hoE] at hfact
  rw [hix,hHy] at hH2
  have hmle:=h.mle
  have hmy:m=y:=by
   rcases Nat.lt_trichotomy m y with e | e | e
   ·have hmk:m<ops.size:=by omega
    obtain ⟨⟨u,Hh,hm⟩,hml⟩:=h.mh hmk
    have hokm:=(ht.ok m hmk).2
    rw [hm] at hokm
    exact absurd (hpre m (plan_pair hplan hoy (tr_op hplan ht hmk) e (.inl ⟨hheavy,hokm.2.1⟩))) hml
   ·exact e
   ·exact absurd (h.mlt y e ⟨v,H2,hout⟩) hun
  subst hmy
  have hMn:(maskL (planOf ops) n0 m al (stAt n0 s0 E m).H).n=HS.n:=by rw [maskL_n];exact h.n.symm
  have hrM:=h.rel.mask (L:=Hid (planOf ops) n0 m al) hMn fun l=>by
   by_cases hid:Hid (planOf ops) n0 m al l
   ·exact .inl ⟨hid,(maskL_get l).1 hid⟩
   ·refine .inr ⟨hid,?_⟩
    rw [(maskL_get l).2 hid]
    by_cases hfr : ∃ x,x<ops.size∧freshOut E x∧l=n0+x
    ·obtain ⟨x,hxk,hf,rfl⟩:=hfr
     have hpx:(planOf ops).pre x m=true:=by
      cases hpx:(planOf ops).pre x m with
      | true=>rfl
      | false=>exact absurd ⟨x,freshAl x hxk hf,hpx,rfl⟩ hid
     exact (h.g1 x hxk hf (hpre x hpx) (plan_lt hplan hyk hpx)).symm
    ·exact (h.g4 l fun x hxk hf e=>hfr ⟨x,hxk,hf,e⟩).symm
  refine opRun (wantedOf hw) (hfact ro n (c.mask ρ HS w (Hid (planOf ops) n0 m al)) ρ w a K Q hG hops hrM (fun v2 H3 u w' ρ' e hx hr' hv=>?_) (fun v2 H3 u w' ρ' e=>by cases e))
  cases e
  obtain ⟨_,hr2⟩:=h.rel.unmask (L:=Hid (planOf ops) n0 m al) (H2:=restoreL (planOf ops) n0 m HS al H') hr' restoreL_n fun l=>by
   by_cases hid:Hid (planOf ops) n0 m al l
   ·exact .inl ⟨hid,(restoreL_get l).1 hid⟩
   ·exact .inr ⟨hid,(restoreL_get l).2 hid⟩
  have henv : ∀ l,l<HS.n→l<H'.n∧ρ' l=ρ l:=fun l hl=>hr'.env l hl
  have hnn:HS.n≤H'.n:=Nat.le_of_not_lt fun hlt=>by have:=(henv _ hlt).1;omega
  obtain ⟨m',k1,k2,k3,k4⟩:=next_heavy E ops.size (ops.size-(m+1)) (m+1) (by omega)
  have e0:m+1+(m'-(m+1))=m':=by omega
  have hst:(stAt n0 s0 E (m+1)).H=H2:=by
   rcases tr_step hplan ht hyk with ⟨e,_,_⟩ | ⟨e,_⟩ | ⟨_,v',H2',H'',e1,_,_,e2⟩
   ·exact absurd ⟨v,H2,hout⟩ e
   ·exact absurd ⟨v,H2,hout⟩ e
   ·rw [hout] at e1;cases e1;exact e2
  have hcn:=tr_const_n hplan ht (m'-(m+1)) (m+1) (by omega) fun k h1 h2=>k4 k h1 (by omega)
  rw [e0,hst,hH2,restoreL_n] at hcn
  have hcg : ∀ l,(∀ a,m+1≤a→a<m'→freshOut E a→l≠n0+a)→(stAt n0 s0 E m').H.get l=H2.get l:=fun l hl=>by
   have:=tr_const hplan ht (l:=l) (m'-(m+1)) (m+1) (by omega) (fun k h1 h2 hh=>absurd hh (k4 k h1 (by omega))) (fun a h1 h2=>hl a h1 (by omega))
   rw [e0,hst] at this
   exact this
  have htmp:=tmp_step hplan ht hyk hun hpre hcl h.size h.tsize h.tout h.tmp hx (v:=u) (by simp only [Ent.val,hout];exact hv)
  rw [hoE] at htmp
  have hnf : ¬ freshOut E m:=noFresh _ hout (by simp)
  have hlo:=h.lo
  have preLt : ∀ x,(planOf ops).pre x m=true→x<m:=fun x hp=>plan_lt hplan hyk hp
  refine hK m' ρ' (restoreL (planOf ops) n0 m HS al H') _ w' ⟨hsize',hclosed',k2,fun hm=>⟨k3 hm,fun hl=>?_⟩,fun x hx2 hh=>?_,?_,?_,fun x hxk hf hl hm=>?_,fun x v' b' hxk hf hl hm=>?_,fun x hxk hf hl=>?_,fun l hl=>?_,hr2,h.ext.trans hx,?_,fun u hu=>VR.ext hx _ _ (h.tout u hu),htmp,?_⟩
  ·obtain ⟨u',Hh,hm'⟩:=k3 hm
   have hokm:=(ht.ok m' hm).2
   rw [hm'] at hokm
   have hp:=plan_pair hplan (tr_op hplan ht hm) hoy (show m<m' by omega) (.inl ⟨hokm.2.1,hheavy⟩)
   exact hun (hcl m' hm (((hset m').1 hl).resolve_left (by omega)) m hp)
  ·by_cases e:x<m
   ·exact (hset x).2 (.inr (h.mlt x e hh))
   ·by_cases e2:x=m
    ·exact (hset x).2 (.inl e2)
    ·exact absurd hh (k4 x (by omega) hx2)
  ·rw [restoreL_n,hcn]
  ·rw [restoreL_n];omega
  ·have hxm:x≠m:=fun e=>hnf (e▸hf)
   have hlx:=((hset x).1 hl).resolve_left hxm
   have hxal:=freshAl x hxk hf
   by_cases hlt:x<m
   ·rw [hcg _ (fun a h1 h2 _=>by omega),hH2]
    by_cases hid:Hid (planOf ops) n0 m al (n0+x)
    ·rw [(restoreL_get _).1 hid,(restoreL_get _).1 hid]
     exact h.g1 x hxk hf hlx hlt
    ·rw [(restoreL_get _).2 hid,(restoreL_get _).2 hid]
   ·have hid:Hid (planOf ops) n0 m al (n0+x):=⟨x,hxal,by
     rw [Bool.eq_false_iff];intro hp;exact hlt (preLt x hp),rfl⟩
    rw [(restoreL_get _).1 hid]
    obtain ⟨v',b',hf'⟩:=hf
    rw [h.g2 x v' b' hxk hf' hlx (by omega)]
    have hc:=tr_const hplan ht (l:=n0+x) (m'-(x+1)) (x+1) (by omega) (fun k h1 h2 hh=>absurd hh (k4 k (by omega) (by omega))) (fun a h1 h2 _=>by omega)
    have e1:x+1+(m'-(x+1))=m':=by omega
    rw [e1] at hc
    rw [hc]
    rcases tr_step hplan ht hxk with ⟨_,e,_⟩ | ⟨_,v2,b2,e1,_,e2⟩ | ⟨e,_⟩
    ·exact absurd ⟨v',b',hf'⟩ e
    ·rw [hf'] at e1;cases e1
     rw [e2,AH.get_set_same]
    ·exact absurd ⟨v',b',hf'⟩ e
  ·have hxm:x≠m:=by omega
   have hid:Hid (planOf ops) n0 m al (n0+x):=⟨x,freshAl x hxk ⟨v',b',hf⟩,by
    rw [Bool.eq_false_iff];intro hp;have:=preLt x hp;omega,rfl⟩
   rw [(restoreL_get _).1 hid]
   exact h.g2 x v' b' hxk hf (((hset x).1 hl).resolve_left hxm) (by omega)
  ·have hnl : ¬ Lst listed x:=fun hl'=>hl ((hset x).2 (.inr hl'))
   have hid:Hid (planOf ops) n0 m al (n0+x):=⟨x,freshAl x hxk hf,by
    rw [Bool.eq_false_iff];intro hp;exact hnl (hpre x hp),rfl⟩
   obtain ⟨e1,e2⟩:=h.g3 x hxk hf hnl
   exact ⟨by rw [(restoreL_get _).1 hid];exact e1,by rw [(henv _ (by omega)).2];exact e2⟩
  ·rw [hcg l (fun a h1 h2 hf=>hl a (by omega) hf),hH2]
   by_cases hid:Hid (planOf ops) n0 m al l
   ·rw [(restoreL_get _).1 hid,(restoreL_get _).1 hid]
    exact h.g4 l hl
   ·rw [(restoreL_get _).2 hid,(restoreL_get _).2 hid]
  ·cases hd:o.dst with
   | none=>exact h.tsize
   | some d=>simp [Act.put,h.tsize]
  ·cases hd:o.dst with
   | none=>exact h.df.ext hx
   | some d=>exact h.df.ext hx
end
end Go.Sx
end
section
namespace Go.Sx
open Go
set_option linter.unusedSectionVars false
theorem mem_newOnes {I:Info}: ∀ {os:List Oper} {i t:Nat} {o:Oper},os[t]? =some o→cls I o= .light→mayNew o=true→i+t∈newOnes I i os
 | [],i,t,o,h,_,_=>by simp at h
 | o'::os,i,t,o,h,h1,h2=>by
  cases t with
  | zero=>
   simp only [List.getElem?_cons_zero,Option.some.injEq] at h
   subst h
   simp only [newOnes,h1,h2,cond_true,Nat.add_zero]
   exact List.mem_cons_self
  | succ t=>
   simp only [List.getElem?_cons_succ] at h
   have:=mem_newOnes (i:=i+1) h h1 h2
   have e:i+(t+1)=i+1+t:=by omega
   rw [e]
   simp only [newOnes]
   split
   ·cases mayNew o' with
    | true=>exact List.mem_cons_of_mem _ this
    | false=>exact this
   ·exact this
section
variable {P:Program} {I:Info} {ops:Array Oper} {al:List Nat} {n0 N:Nat} {s0 sf:St} {E:Nat→Ent} {c:Ctx} {ρ0:Env}
variable (hplan:planOk I ops (planOf ops)=true) (ht:TraceOk P I ops (planOf ops) al n0 N s0 ops.size E sf)
include hplan ht
theorem d_done {listed:Array Bool} {m:Nat} {ρ:Env} {HS:AH} {a:Act} {w:World} (h:DInv ops al n0 N s0 E c ρ0 listed m ρ HS a w) (hall : ∀ i,i<ops.size→Lst listed i): (AExit.n sf).post c ρ0 .normal a w:=by
 have hm:m=ops.size:=by
  have:=h.mle
  rcases Nat.lt_or_ge m ops.size with e | e
  ·exact absurd (hall m e) (h.mh e).2
  ·omega
 subst hm
 have hsf:=ht.last
 refine ⟨ρ,h.ext,⟨by rw [hsf,tr_nt hplan ht _ (Nat.le_refl _)];exact h.tsize,fun u=>?_⟩,?_,by rw [hsf,tr_df hplan ht _ (Nat.le_refl _)];exact h.df⟩
 ·rw [hsf]
  exact h.tmp ops.size (Nat.le_refl _) (fun e=>by omega) u (fun e=>by omega) fun j hj _=>hall j hj
 ·rw [hsf]
  refine h.rel.congr h.n.symm fun l=>?_
  by_cases hfr : ∃ x,x<ops.size∧freshOut E x∧l=n0+x
  ·obtain ⟨x,hxk,hf,rfl⟩:=hfr
   exact (h.g1 x hxk hf (hall x hxk) hxk).symm
  ·exact (h.g4 l fun x hxk hf e=>hfr ⟨x,hxk,hf,e⟩).symm
theorem all_of_none {listed:Array Bool} (hsz:listed.size=ops.size) (hr:Region.ready .any ops listed=[]): ∀ i,i<ops.size→Lst listed i:=by
 intro i
 induction i using Nat.strongRecOn with
 | _ i ih=>
  intro hi
  apply Classical.byContradiction
  intro hn
  have:i∈Region.ready .any ops listed:=by
   refine mem_ready.2 ⟨?_,ops[i],Array.getElem?_eq_getElem hi,fun e he hb=>?_⟩
   ·unfold Lst at hn
    rw [Array.getD_eq_getD_getElem?,Array.getElem?_eq_getElem (by omega)] at hn⊢
    simpa using hn
   ·have hlt:=plan_edge hplan (Array.getElem?_eq_getElem hi) he hb
    exact ih e.on hlt (by omega)
  rw [hr] at this
  cases this
theorem d_any {ro:Option Nat} {n:Nat} (hN:s0.H.n≤N) (hlow : ∀ l,n0≤l→s0.H.get l= .dead) (hE0 : ∀ l,c.E l→l<n0) (hG:c.G=I.G): ∀ (fuel:Nat) (U:List Nat) (listed:Array Bool) (m:Nat) (ρ:Env) (HS:AH) (a:Act) (w:World),
  U.length=fuel→U.Nodup→(∀ i,i<ops.size→(¬ Lst listed i↔i∈U))→(∀ i,i∈U→i<ops.size)→DInv ops al n0 N s0 E c ρ0 listed m ρ HS a w→
  wpAnyIn (WF ro) n P .any ops ((AExit.n sf).post c ρ0) fuel listed a w
 | 0,U,listed,m,ρ,HS,a,w,hl,_,hU,_,h=>by
  have hnil:U=[]:=List.eq_nil_of_length_eq_zero hl
  subst hnil
  have hall : ∀ i,i<ops.size→Lst listed i:=fun i hi=>Classical.byContradiction fun e=>by
   have:=(hU i hi).1 e
   cases this
  refine ⟨?_,d_done hplan ht h hall⟩
  cases hr:Region.ready .any ops listed with
  | nil=>rfl
  | cons y ys=>
   have hy:y∈Region.ready .any ops listed:=by rw [hr];exact List.mem_cons_self
   obtain ⟨h1,o,ho,_⟩:=mem_ready.1 hy
   have hyk:=(Array.getElem?_eq_some_iff.1 ho).1
   have:=hall y hyk
   unfold Lst at this
   rw [Array.getD_eq_getD_getElem?,Array.getElem?_eq_getElem (by rw [h.size];exact hyk)] at h1 this
   simp at h1 this
   rw [h1] at this;cases this
 | fuel+1,U,listed,m,ρ,HS,a,w,hl,hnd,hU,hUk,h=>by
  refine ⟨fun hr=>d_done hplan ht h (all_of_none hplan ht h.size hr),fun y hy=>?_⟩
  refine d_step hplan ht hN hlow hE0 hG h hy fun m' ρ' HS' a' w' h'=>?_
  obtain ⟨h1,o,ho,_⟩:=mem_ready.1 hy
  have hyk:=(Array.getElem?_eq_some_iff.1 ho).1
  have hyl : ¬ Lst listed y:=by
   unfold Lst
   rw [Array.getD_eq_getD_getElem?,Array.getElem?_eq_getElem (by rw [h.size];exact hyk)] at h1⊢
   simpa using h1
  have hyU:=(hU y hyk).1 hyl
  have hset : ∀ j,Lst (listed.setIfInBounds y true) j↔j=y∨Lst listed j:=fun j=>by
   unfold Lst
   by_cases e:j=y
   ·subst e
    simp [Array.getD_eq_getD_getElem?,h.size,hyk]
   ·simp only [Array.getD_eq_getD_getElem?,Array.getElem?_setIfInBounds]
    rw [if_neg (fun e'=>e e'.symm)]
    simp [e]
  refine d_any hN hlow hE0 hG fuel (U.erase y) _ m' ρ' HS' a' w' ?_ (hnd.erase y) (fun i hi=>?_) (fun i hi=>hUk i (List.mem_of_mem_erase hi)) h'
  ·rw [List.length_erase_of_mem hyU,hl];rfl
  ·rw [hnd.mem_erase_iff,hset,←hU i hi]
   constructor
   ·intro e;exact ⟨fun e1=>e (.inl e1),fun e1=>e (.inr e1)⟩
   ·rintro ⟨e1,e2⟩ (e3 | e3)
    ·exact e1 e3
    ·exact e2 e3
end
section
variable {R:Type} {X:RI R} {sem:R→Prop} (hX:X.Ok sem) {I:Info} {P:Program} (hI:I.Ok P)
include hX hI in
theorem drawn_any (N:Nat) {call:Caller R} {round:Rounder R} (hcall:CallerOk P I sem call) (hround:RounderOk P I sem round) {ops:Array Oper} {k:KS R} {s:St} (h:sem (drawn X I N call round ops k s)):
  ∃ sf,sem (k.n sf)∧ ∀ ro n c ρ a w,c.G=I.G→SRel c ρ s a w→wpAnyIn (WF ro) n P .any ops ((AExit.n sf).post c ρ) ops.size (Array.replicate ops.size false) a {w with drawn:=w.drawn+1}:=by
 unfold drawn at h
 cases hp:planOk I ops (PM.of ops.toList {n:=0,l:=[]})&&Nat.ble (s.H.n+ops.size) N with
 | false=>rw [hp] at h;exact absurd h hX.fail
 | true=>
  rw [hp] at h
  simp only [Bool.and_eq_true] at hp
  obtain ⟨hplan,hN⟩:=hp
  have hplan:planOk I ops (planOf ops)=true:=hplan
  have hN:s.H.n+ops.size≤N:=Nat.le_of_ble_eq_true hN
  have hal:mayList I ops (newOnes I 0 ops.toList):=fun i o ho hc hm=>by
   obtain ⟨u,hu,rfl⟩:=hc
   have:=mem_newOnes (I:=I) (i:=0) (os:=ops.toList) (t:=i) (by simpa using ho) hu hm
   simpa using this
  obtain ⟨s0,hs0⟩: ∃ s0,s0=s.heap (s.H.up (s.H.n+ops.size)):=⟨_,rfl⟩
  have t0:TraceOk P I ops (planOf ops) (newOnes I 0 ops.toList) s.H.n N s0 0 (fun _=>{ix:=0,o:=default,s:=s0,out:=.skip}) s0 :=
   ⟨fun j hj=>by omega,fun j hj=>by omega,fun j hj=>by omega,rfl,fun j h v u Hh hj=>by omega,fun j h v u Hh hj=>by omega⟩
  obtain ⟨sf,E,h1,ht⟩:=dops_ok hX hI hcall hround hal (p:=planOf ops) (K:=k.n) ops.toList 0 s0 _ rfl (Nat.zero_le _) t0 (by rw [hs0];exact h)
  refine ⟨sf,h1,fun ro n c ρ a w hG hr=>?_⟩
  have hrel:Rel c ρ s0.H {w with drawn:=w.drawn+1}:=by
   rw [hs0];exact (hr.heap.up (Nat.le_add_right _ _)).drawn _
  have hnt:s0.nt=s.nt:=by rw [hs0];rfl
  have hst:s0.t=s.t:=by rw [hs0];rfl
  have hsdf:s0.df=s.df:=by rw [hs0];rfl
  have hsn:s0.H.n=s.H.n+ops.size:=by rw [hs0];rfl
  have hlow : ∀ l,s.H.n≤l→s0.H.get l= .dead:=fun l hl=>by rw [hs0];exact hr.heap.low l hl
  obtain ⟨m,_,k2,k3,k4⟩:=next_heavy E ops.size ops.size 0 (by omega)
  have hnl : ∀ i,¬ Lst (Array.replicate ops.size false) i:=fun i=>by
   unfold Lst
   rw [Array.getD_eq_getD_getElem?,Array.getElem?_replicate]
   by_cases hi:i<ops.size<;>simp [hi]
  have e0:0+(m-0)=m:=by omega
  have hcn:=tr_const_n hplan ht (m-0) 0 (by omega) fun h h1 h2=>k4 h h1 (by omega)
  rw [e0] at hcn
  refine d_any hplan ht (by omega) hlow (fun l hl=>(hr.heap.env l hl).1) hG ops.size (List.range ops.size) _ m ρ s0.H a _ (by simp) List.nodup_range (fun i hi=>?_) (fun i hi=>List.mem_range.1 hi) ?_
  ·exact ⟨fun _=>List.mem_range.2 hi,fun _=>hnl i⟩
  ·refine ⟨by simp,fun j o _ hl=>absurd hl (hnl j),k2,fun hm=>⟨k3 hm,hnl m⟩,fun h h1 h2=>absurd h2 (k4 h (Nat.zero_le _) h1),hcn.symm,by omega,fun x _ _ hl=>absurd hl (hnl x),fun x v b _ _ hl=>absurd hl (hnl x),fun x hx hf _=>⟨hlow _ (by omega),hr.heap.top _ (by omega)⟩,fun l hl=>?_,hrel,Ext.refl ρ,by rw [hnt];exact hr.tmp.1,fun u hu=>?_,fun x hx _ u _ hw=>?_,by rw [hsdf];exact hr.df⟩
   ·have:=tr_const hplan ht (l:=l) (m-0) 0 (by omega) (fun k h1 h2 hh=>absurd hh (k4 k h1 (by omega))) (fun a h1 h2 hf=>hl a (by omega) hf)
    rw [e0] at this
    exact this.symm
   ·have:=hr.tmp.2 u
    rw [hst]
    have e1:a.tmps.getD u undef=undef:=by
     rw [Array.getD_eq_getD_getElem?,Array.getElem?_eq_none (by rw [hr.tmp.1,←hnt];exact Nat.le_of_not_lt hu)]
     rfl
    rw [e1] at this
    exact this
   ·have:=tr_t_const hplan ht (u:=u) (x-0) 0 (by omega) fun j h1 h2 hd=>hnl j (hw j (by omega) hd)
    have e1:0+(x-0)=x:=by omega
    rw [e1] at this
    rw [this]
    show VR ρ (tget s0.t u) _
    rw [hst]
    exact hr.tmp.2 u
include hX hI in
theorem drawn_ok (N:Nat): DrawerOk P I sem (drawn X I N):=by
 intro call round hcall hround ops k s h
 obtain ⟨sf,h1,h2⟩:=drawn_any hX hI N hcall hround h
 exact ⟨.n sf,h1,fun ro n c ρ a w id hG hr=>wpIn_region_any hI.mixed (h2 ro n c ρ a w hG hr)⟩
def isCall (o:Oper): Bool:=match o.op with
 | .call {callee:=.value _,..}=>true
 | _=>false
def tailOk (I:Info) (ops:Array Oper): Bool :=
 match ops.back? with
 | none=>false
 | some o=>isCall o&&planOk I ops (planOf ops)&&planOk I ops.pop (planOf ops.pop)&&(List.range ops.pop.size).all (fun i=>(planOf ops).pre i ops.pop.size)&&
   ops.pop.toList.all (fun o=>match o.guard with | none=>true | some (j,_)=>Nat.blt j ops.pop.size)
def drawn2 (X:RI R) (I:Info) (N:Nat): Drawer R:=fun call round ops k s=>
 bif tailOk I ops then drawn X I N call round ops.pop {k with n:=fun s'=>match ops.back? with
  | some o=>rops X I call round ops k [o] s'
  | none=>X.fail} s
 else drawn X I N call round ops k s
end
end Go.Sx
end
