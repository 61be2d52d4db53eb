/- CertifyOpens is proved, part 1. -/
import Derived.OrdersIn
import Derived.Laws.Sem
import Derived.KernelRfl
import Derived.Laws.Strings
import Derived.Laws.StructEq
import Derived.Laws.Pointers
import Derived.Laws.Slices
import Derived.LaidEql
set_option linter.unusedVariables false
set_option linter.unusedSimpArgs false
set_option linter.unusedSectionVars false
section
namespace Go.Sx
inductive AV where
 | bool (b:Bool)
 | int (k:IntKind) (n:Int)
 | str (s:List UInt8)
 | ptr (l k e j:Nat)
 | nilPtr
 | slice (l base k len:Nat) (cap:Option Nat) (e:Nat)
 | nilSlice
 | own (l len e:Nat)
 | map (l:Option Nat)
 | fn (f:Nat) (first caps:List AV)
 | yield (l:Nat)
 | nilFn
 | nilIface
 | iface (t:TypeId) (v:AV)
 | agg (cs:List AV)
 | tup (cs:List AV)
 | any
 | fptr (cs:List AV) (j:Nat)
 | fslice (len e:Nat) (f:Nat→List AV)
 deriving Inhabited
structure Env where
 pl:Nat→Option (Nat×Nat)
 fz:Nat→Option (List Value)
instance:CoeFun Env (fun _=>Nat→Option (Nat×Nat)):=⟨Env.pl⟩
def Env.bare (ρ:Env): Env:=⟨fun _=>none,ρ.fz⟩
def Env.turn (σ:Nat→Nat) (ρ:Env): Env:=⟨fun l=>ρ (σ l),ρ.fz⟩
def FzC (ρ:Env) (b o:Nat) (vs:List Value): Prop :=
 (∀ v∈vs,v.oneCell'=true)∧ ∃ pre rest,pre.length=o∧ρ.fz b=some (pre++vs++rest)
mutual
def VR (ρ:Env): AV→Value→Prop
 | .bool b,v=>v= .bool b
 | .int k n,v=>v= .int k n
 | .str s,v=>v= .string ⟨s.toArray⟩
 | .nilPtr,v=>v= .pointer none
 | .ptr l k e j,v=> ∃ b N,ρ l=some (b,N)∧v= .pointer (some ⟨b,k*e+j,none⟩)
 | .slice l base k len cap e,v=> ∃ b N c a,ρ l=some (b,N)∧v= .slice (some a) len c∧len≤c∧(0<c→a=⟨b,base+k*e,none⟩∧base+k*e+c*e≤N)∧ ∀ c',cap=some c'→c=c'
 | .nilSlice,v=>v= .slice none 0 0
 | .own l len e,v=>(len=0∧v= .slice none 0 0)∨ ∃ b N c,ρ l=some (b,N)∧v= .slice (some ⟨b,0,none⟩) len c∧len≤c∧c*e≤N
 | .map none,v=>v= .map none
 | .map (some l),v=> ∃ b N,ρ l=some (b,N)∧v= .map (some b)
 | .fn f first caps,v=> ∃ us vs:List Value,v= .func (.func f) us.toArray vs.toArray∧VRs ρ first us∧VRs ρ caps vs
 | .yield l,v=> ∃ b N,ρ l=some (b,N)∧v= .func (.yield b) #[] #[]
 | .nilFn,v=>v= .nilFunc
 | .nilIface,v=>v= .nilIface
 | .iface t a,v=> ∃ u,v= .iface t u∧VR ρ a u
 | .agg cs,v=> ∃ vs:List Value,v= .agg vs.toArray∧VRs ρ cs vs
 | .tup cs,v=> ∃ vs:List Value,v= .tuple vs.toArray∧VRs ρ cs vs
 | .any,_=>True
 | .fptr cs j,v=> ∃ b o vs,v= .pointer (some ⟨b,o+j,none⟩)∧FzC ρ b o vs∧VRs ρ.bare cs vs
 | .fslice len e f,v=>(len=0∧v= .slice none 0 0)∨ ∃ b o c a vss,v= .slice (some a) len c∧len≤c∧
   (0<len→a=⟨b,o,none⟩∧FzC ρ b o ((List.range len).flatMap vss)∧ ∀ i,i<len→(vss i).length=e∧VRs ρ.bare (f i) (vss i))
def VRs (ρ:Env): List AV→List Value→Prop
 | [],vs=>vs=[]
 | a::as,vs=> ∃ u us,vs=u::us∧VR ρ a u∧VRs ρ as us
end
structure Ext (ρ ρ':Env): Prop where
 lab : ∀ l x,ρ l=some x→ρ' l=some x
 fz : ∀ b vs,ρ.fz b=some vs→ρ'.fz b=some vs
instance {ρ ρ':Env}: CoeFun (Ext ρ ρ') (fun _=> ∀ l x,ρ l=some x→ρ' l=some x):=⟨Ext.lab⟩
theorem Ext.refl (ρ:Env): Ext ρ ρ:=⟨fun _ _ h=>h,fun _ _ h=>h⟩
theorem Ext.trans {a b c:Env} (h:Ext a b) (k:Ext b c): Ext a c:=⟨fun l x e=>k l x (h l x e),fun l x e=>k.fz l x (h.fz l x e)⟩
theorem Ext.bare {a b:Env} (h:Ext a b): Ext a.bare b.bare:=⟨fun _ _ e=>(by cases e),h.fz⟩
theorem Ext.of_bare (a:Env): Ext a.bare a:=⟨fun _ _ e=>(by cases e),fun _ _ e=>e⟩
theorem FzC.mono {ρ ρ':Env} (h : ∀ b vs,ρ.fz b=some vs→ρ'.fz b=some vs) {b o:Nat} {vs:List Value} (k:FzC ρ b o vs): FzC ρ' b o vs:=by
 obtain ⟨k1,pre,rest,k2,k4⟩:=k
 exact ⟨k1,pre,rest,k2,h _ _ k4⟩
theorem flat_len {e n:Nat} {vss:Nat→List Value} (h : ∀ i,i<n→(vss i).length=e): ((List.range n).flatMap vss).length=n*e:=by
 induction n with
 | zero=>simp
 | succ n ih=>rw [List.range_succ,List.flatMap_append,List.length_append,ih (fun i hi=>h i (by omega)),Nat.succ_mul];simp [h n (by omega)]
theorem range_split {n n':Nat} (k:n'≤n): List.range n=List.range n'++(List.range (n-n')).map (n'+ ·):=by
 have:n=n'+(n-n'):=by omega
 conv=>lhs;rw [this,List.range_add]
theorem FzC.part {ρ:Env} {b o n k m e:Nat} {vss:Nat→List Value} (h:FzC ρ b o ((List.range n).flatMap vss)) (he : ∀ i,i<n→(vss i).length=e) (hk:k+m≤n): FzC ρ b (o+k*e) ((List.range m).flatMap fun i=>vss (k+i)):=by
 obtain ⟨h1,pre,rest,h3,h2⟩:=h
 have e1:(List.range n).flatMap vss=(List.range k).flatMap vss++((List.range m).flatMap (fun i=>vss (k+i))++(List.range (n-(k+m))).flatMap (fun i=>vss (k+m+i))):=by
  rw [range_split (show k≤n by omega),List.flatMap_append,range_split (show m≤n-k by omega),List.map_append,List.flatMap_append]
  have:n-k-m=n-(k+m):=by omega
  simp [List.flatMap_map,this,Nat.add_assoc]
 rw [e1] at h1 h2
 refine ⟨fun v hv=>h1 v (List.mem_append_right _ (List.mem_append_left _ hv)),pre++(List.range k).flatMap vss,(List.range (n-(k+m))).flatMap (fun i=>vss (k+m+i))++rest,by rw [List.length_append,h3,flat_len fun i hi=>he i (by omega)],?_⟩
 rw [h2];simp [List.append_assoc]
theorem FzC.row {ρ:Env} {b o n k e:Nat} {vss:Nat→List Value} (h:FzC ρ b o ((List.range n).flatMap vss)) (he : ∀ i,i<n→(vss i).length=e) (hk:k<n): FzC ρ b (o+k*e) (vss k):=by
 simpa using h.part he (m:=1) (k:=k) (by omega)
mutual
theorem VR.ext {ρ ρ':Env} (h:Ext ρ ρ'): ∀ (a:AV) (v:Value),VR ρ a v→VR ρ' a v
 | .bool _,_,k=>by simpa only [VR] using k
 | .int _ _,_,k=>by simpa only [VR] using k
 | .str _,_,k=>by simpa only [VR] using k
 | .nilPtr,_,k=>by simpa only [VR] using k
 | .ptr l _ _ _,v,k=>by
  simp only [VR] at k⊢
  obtain ⟨b,N,e,r⟩:=k
  exact ⟨b,N,h _ _ e,r⟩
 | .slice l _ _ _ _ _,v,k=>by
  simp only [VR] at k⊢
  obtain ⟨b,N,c,a,e,r⟩:=k
  exact ⟨b,N,c,a,h _ _ e,r⟩
 | .nilSlice,_,k=>by simpa only [VR] using k
 | .own l len e,v,k=>by
  simp only [VR] at k⊢
  rcases k with k | ⟨b,N,c,e,r⟩
  ·exact .inl k
  ·exact .inr ⟨b,N,c,h _ _ e,r⟩
 | .map none,_,k=>by simpa only [VR] using k
 | .map (some l),v,k=>by
  simp only [VR] at k⊢
  obtain ⟨b,N,e,r⟩:=k
  exact ⟨b,N,h _ _ e,r⟩
 | .fn f first caps,v,k=>by
  simp only [VR] at k⊢
  obtain ⟨us,vs,e,r,s⟩:=k
  exact ⟨us,vs,e,VRs.ext h first us r,VRs.ext h caps vs s⟩
 | .yield l,v,k=>by
  simp only [VR] at k⊢
  obtain ⟨b,N,e,r⟩:=k
  exact ⟨b,N,h _ _ e,r⟩
 | .nilFn,_,k=>by simpa only [VR] using k
 | .nilIface,_,k=>by simpa only [VR] using k
 | .iface t a,v,k=>by
  simp only [VR] at k⊢
  obtain ⟨u,e,r⟩:=k
  exact ⟨u,e,VR.ext h a u r⟩
 | .agg cs,v,k=>by
  simp only [VR] at k⊢
  obtain ⟨vs,e,r⟩:=k
  exact ⟨vs,e,VRs.ext h cs vs r⟩
 | .tup cs,v,k=>by
  simp only [VR] at k⊢
  obtain ⟨vs,e,r⟩:=k
  exact ⟨vs,e,VRs.ext h cs vs r⟩
 | .any,_,_=>by simp only [VR]
 | .fptr cs j,v,hk=>by
  simp only [VR] at hk⊢
  obtain ⟨b,o,vs,h1,h2,h3⟩:=hk
  exact ⟨b,o,vs,h1,h2.mono h.fz,VRs.ext h.bare cs vs h3⟩
 | .fslice len e f,v,hk=>by
  simp only [VR] at hk⊢
  rcases hk with hk | ⟨b,o,c,a,vss,h1,h2,h3⟩
  ·exact .inl hk
  ·exact .inr ⟨b,o,c,a,vss,h1,h2,fun hl=>⟨(h3 hl).1,(h3 hl).2.1.mono h.fz,fun i hi=>⟨((h3 hl).2.2 i hi).1,VRs.ext h.bare (f i) (vss i) ((h3 hl).2.2 i hi).2⟩⟩⟩
theorem VRs.ext {ρ ρ':Env} (h:Ext ρ ρ'): ∀ (as:List AV) (vs:List Value),VRs ρ as vs→VRs ρ' as vs
 | [],_,k=>by simpa only [VRs] using k
 | a::as,vs,k=>by
  simp only [VRs] at k⊢
  obtain ⟨u,us,e,r,s⟩:=k
  exact ⟨u,us,e,VR.ext h a u r,VRs.ext h as us s⟩
end
section
variable {ρ:Env}
theorem VRs.cons_iff {a:AV} {as:List AV} {u:Value} {us:List Value}: VRs ρ (a::as) (u::us)↔VR ρ a u∧VRs ρ as us:=by
 simp only [VRs]
 constructor
 ·rintro ⟨_,_,e,r,s⟩
  cases e
  exact ⟨r,s⟩
 ·rintro ⟨r,s⟩
  exact ⟨u,us,rfl,r,s⟩
theorem VRs.length_eq : ∀ {as:List AV} {vs:List Value},VRs ρ as vs→as.length=vs.length
 | [],vs,h=>by simp only [VRs] at h;simp [h]
 | a::as,vs,h=>by
  simp only [VRs] at h
  obtain ⟨u,us,rfl,_,s⟩:=h
  simp [VRs.length_eq s]
theorem VRs.get : ∀ {as:List AV} {vs:List Value} (_:VRs ρ as vs) (i:Nat) {a:AV},as[i]? =some a→ ∃ v,vs[i]? =some v∧VR ρ a v
 | [],_,_,i,a,e=>by simp at e
 | x::as,vs,h,i,a,e=>by
  simp only [VRs] at h
  obtain ⟨u,us,rfl,r,s⟩:=h
  cases i with
  | zero=>simp at e;subst e;exact ⟨u,by simp,r⟩
  | succ i=>simp at e;simpa using VRs.get s i e
theorem VRs.append : ∀ {as bs:List AV} {us vs:List Value},VRs ρ as us→VRs ρ bs vs→VRs ρ (as++bs) (us++vs)
 | [],bs,us,vs,h,k=>by simp only [VRs] at h;subst h;simpa using k
 | a::as,bs,us,vs,h,k=>by
  simp only [VRs] at h
  obtain ⟨u,us',rfl,r,s⟩:=h
  exact VRs.cons_iff.2 ⟨r,VRs.append s k⟩
theorem VRs.take : ∀ {as:List AV} {vs:List Value} (n:Nat),VRs ρ as vs→VRs ρ (as.take n) (vs.take n)
 | as,vs,0,_=>by simp [VRs]
 | [],vs,n+1,h=>by simp only [VRs] at h;subst h;simp [VRs]
 | a::as,vs,n+1,h=>by
  simp only [VRs] at h
  obtain ⟨u,us',rfl,r,s⟩:=h
  exact VRs.cons_iff.2 ⟨r,VRs.take n s⟩
theorem VRs.drop : ∀ {as:List AV} {vs:List Value} (n:Nat),VRs ρ as vs→VRs ρ (as.drop n) (vs.drop n)
 | as,vs,0,h=>by simpa using h
 | [],vs,n+1,h=>by simp only [VRs] at h;subst h;simp [VRs]
 | a::as,vs,n+1,h=>by
  simp only [VRs] at h
  obtain ⟨u,us',rfl,r,s⟩:=h
  simpa using VRs.drop n s
theorem VRs.set : ∀ {as:List AV} {vs:List Value} (i:Nat) {a:AV} {v:Value},VRs ρ as vs→VR ρ a v→VRs ρ (as.set i a) (vs.set i v)
 | [],vs,i,_,_,h,_=>by simp only [VRs] at h;subst h;simp [VRs]
 | x::as,vs,i,a,v,h,k=>by
  simp only [VRs] at h
  obtain ⟨u,us',rfl,r,s⟩:=h
  cases i with
  | zero=>exact VRs.cons_iff.2 ⟨k,s⟩
  | succ i=>exact VRs.cons_iff.2 ⟨r,VRs.set i s k⟩
theorem VRs.replicate {a:AV} {v:Value} (h:VR ρ a v): ∀ n,VRs ρ (List.replicate n a) (List.replicate n v)
 | 0=>by simp [VRs]
 | n+1=>VRs.cons_iff.2 ⟨h,VRs.replicate h n⟩
end
inductive Tr (α:Type) where
 | e
 | n (l:Tr α) (v:Option α) (r:Tr α)
def Tr.get {α:Type}: Tr α→Nat→Option α
 | .e,_=>none
 | .n l v r,i=>bif Nat.beq i 0 then v else bif Nat.beq (i%2) 1 then l.get (i/2) else r.get (i/2-1)
def Tr.setF {α:Type} (x:α): Nat→Tr α→Nat→Tr α
 | 0,t,_=>t
 | f+1,.e,i=>bif Nat.beq i 0 then .n .e (some x) .e else bif Nat.beq (i%2) 1 then .n (Tr.setF x f .e (i/2)) none .e else .n .e none (Tr.setF x f .e (i/2-1))
 | f+1,.n l v r,i=>bif Nat.beq i 0 then .n l (some x) r else bif Nat.beq (i%2) 1 then .n (Tr.setF x f l (i/2)) v r else .n l v (Tr.setF x f r (i/2-1))
def Tr.set {α:Type} (t:Tr α) (i:Nat) (x:α): Tr α:=Tr.setF x (i+1) t i
theorem Tr.get_e {α:Type} (i:Nat): (Tr.e:Tr α).get i=none:=rfl
theorem Tr.get_setF {α:Type} (x:α): ∀ (f:Nat) (t:Tr α) (i j:Nat),i<f→(Tr.setF x f t i).get j=if j=i then some x else t.get j
 | 0,_,_,_,h=>absurd h (Nat.not_lt_zero _)
 | f+1,t,i,j,h=>by
  have key : ∀ (l r:Tr α) (v:Option α),((bif Nat.beq i 0 then .n l (some x) r else bif Nat.beq (i%2) 1 then .n (Tr.setF x f l (i/2)) v r else .n l v (Tr.setF x f r (i/2-1))): Tr α).get j=if j=i then some x else (Tr.n l v r).get j:=by
   intro l r v
   by_cases h0:i=0
   ·subst h0
    have h00:Nat.beq 0 0=true:=rfl
    simp only [h00,cond_true]
    by_cases hj:j=0
    ·subst hj;simp [Tr.get]
    ·have:Nat.beq j 0=false:=by rw [Bool.eq_false_iff];intro e;exact hj (Nat.eq_of_beq_eq_true e)
     simp [Tr.get,this,hj]
   ·have hb:Nat.beq i 0=false:=by rw [Bool.eq_false_iff];intro e;exact h0 (Nat.eq_of_beq_eq_true e)
    rw [hb,cond_false]
    by_cases h1:i%2=1
    ·have hb1:Nat.beq (i%2) 1=true:=by rw [h1];rfl
     rw [hb1,cond_true]
     simp only [Tr.get]
     by_cases hj:j=0
     ·subst hj
      have : ¬ 0=i:=fun e=>h0 e.symm
      simp [this]
     ·have hjb:Nat.beq j 0=false:=by rw [Bool.eq_false_iff];intro e;exact hj (Nat.eq_of_beq_eq_true e)
      rw [hjb]
      simp only [cond_false]
      by_cases hj1:j%2=1
      ·have:Nat.beq (j%2) 1=true:=by rw [hj1];rfl
       rw [this]
       simp only [cond_true]
       rw [Tr.get_setF x f l (i/2) (j/2) (by omega)]
       by_cases e:j=i
       ·subst e;simp
       ·have : ¬ j/2=i/2:=by omega
        simp [e,this]
      ·have:Nat.beq (j%2) 1=false:=by rw [Bool.eq_false_iff];intro e;exact hj1 (Nat.eq_of_beq_eq_true e)
       have hne : ¬ j=i:=fun e=>hj1 (e▸h1)
       simp [this,hne]
    ·have hb1:Nat.beq (i%2) 1=false:=by rw [Bool.eq_false_iff];intro e;exact h1 (Nat.eq_of_beq_eq_true e)
     rw [hb1,cond_false]
     simp only [Tr.get]
     by_cases hj:j=0
     ·subst hj
      have : ¬ 0=i:=fun e=>h0 e.symm
      simp [this]
     ·have hjb:Nat.beq j 0=false:=by rw [Bool.eq_false_iff];intro e;exact hj (Nat.eq_of_beq_eq_true e)
      rw [hjb]
      simp only [cond_false]
      by_cases hj1:j%2=1
      ·have:Nat.beq (j%2) 1=true:=by rw [hj1];rfl
       have hne : ¬ j=i:=fun e=>h1 (e▸hj1)
       simp [this,hne]
      ·have:Nat.beq (j%2) 1=false:=by rw [Bool.eq_false_iff];intro e;exact hj1 (Nat.eq_of_beq_eq_true e)
       rw [this]
       simp only [cond_false]
       rw [Tr.get_setF x f r (i/2-1) (j/2-1) (by omega)]
       by_cases e:j=i
       ·subst e;simp
       ·have : ¬ j/2-1=i/2-1:=by omega
        simp [e,this]
  cases t with
  | e=>
   have:=key .e .e none
   simp only [Tr.setF,Tr.get_e]
   rw [this]
   congr 1
   simp [Tr.get]
  | n l v r=>exact key l r v
theorem Tr.get_set {α:Type} (t:Tr α) (i j:Nat) (x:α): (t.set i x).get j=if j=i then some x else t.get j:=Tr.get_setF x _ t i j (Nat.lt_succ_self i)
def tget (t:Tr AV) (i:Nat): AV:=match t.get i with | some a=>a | none=> .any
def TmpR (ρ:Env) (t:Tr AV) (nt:Nat) (vs:Array Value): Prop:=vs.size=nt∧ ∀ i,VR ρ (tget t i) (vs.getD i undef)
theorem TmpR.ext {ρ ρ':Env} (h:Ext ρ ρ') {t:Tr AV} {nt:Nat} {vs:Array Value} (k:TmpR ρ t nt vs): TmpR ρ' t nt vs:=⟨k.1,fun i=>VR.ext h _ _ (k.2 i)⟩
inductive Access where
 | ro | wr | ty (e:TypeId)
 deriving Inhabited
def Access.w:Access→Bool
 | .ro=>false
 | _=>true
inductive ABlk where
 | cells (cs:List AV) (rw:Access)
 | rows (n e:Nat) (f:Nat→List AV) (rw:Access)
 | str (s:List UInt8) (rw:Access)
 | map (es:List (AV×AV))
 | loop (r:LoopState) (pending:Option Code) (t:Tr AV) (nt:Nat) (params:List Tmp) (assign body:Code) (dfr:Nat)
 | dfr
 | iter (l:Nat)
 | iset (n:Nat) (K:Nat→Int)
 | iwalk (l since:Nat) (S:List Nat)
 | dead
 deriving Inhabited
def isMark:List (AV×AV)→Bool
 | []=>false
 | (a,_)::_=>match a with | .any=>true | _=>false
def unmark:List (AV×AV)→List (AV×AV)
 | []=>[]
 | (a,b)::es=>match a with | .any=>es | _=>(a,b)::es
theorem unmark_eq {es:List (AV×AV)} (h:isMark es=false): unmark es=es:=by
 cases es with
 | nil=>rfl
 | cons e es=>
  obtain ⟨a,b⟩:=e
  cases a<;>first | rfl | cases h
theorem isMark_app {es:List (AV×AV)} {k v:AV} (h:isMark es=false) (hk:k≠ .any): isMark (es++[(k,v)])=false:=by
 cases es with
 | nil=>cases k<;>first | rfl | exact absurd rfl hk
 | cons e es=>exact h
theorem isMark_set {es:List (AV×AV)} {k v:AV} (h:isMark es=false) (hk:k≠ .any) (i:Nat): isMark (es.set i (k,v))=false:=by
 cases es with
 | nil=>rfl
 | cons e es=>
  cases i with
  | zero=>cases k<;>first | rfl | exact absurd rfl hk
  | succ i=>exact h
def SameFound (ms' ms:List MapEntry): Prop := ∀ kd kv i v,Instr.findNow kd kv ms' 0=some (some (i,v))→ ∃ i',Instr.findNow kd kv ms 0=some (some (i',v))
def MapRel (ρ:Env) (es:List (AV×AV)) (ms:List MapEntry): Prop :=
 ∃ ms',VRs ρ ((unmark es).map (·.1)) (ms'.map (·.key))∧VRs ρ ((unmark es).map (·.2)) (ms'.map (·.val))∧(isMark es=false→ms'=ms)∧SameFound ms' ms
theorem MapRel.plain {ρ:Env} {es:List (AV×AV)} {ms:List MapEntry} (h:isMark es=false) (k:MapRel ρ es ms): VRs ρ (es.map (·.1)) (ms.map (·.key))∧VRs ρ (es.map (·.2)) (ms.map (·.val)):=by
 obtain ⟨ms',h1,h2,h3,_⟩:=k
 rw [unmark_eq h] at h1 h2
 rw [h3 h] at h1 h2
 exact ⟨h1,h2⟩
theorem MapRel.mk {ρ:Env} {es:List (AV×AV)} {ms:List MapEntry} (h:isMark es=false) (h1:VRs ρ (es.map (·.1)) (ms.map (·.key))) (h2:VRs ρ (es.map (·.2)) (ms.map (·.val))): MapRel ρ es ms:=by
 refine ⟨ms,?_,?_,fun _=>rfl,fun _ _ i _ e=>⟨i,e⟩⟩
 ·rw [unmark_eq h];exact h1
 ·rw [unmark_eq h];exact h2
def ABlk.rw:ABlk→Bool
 | .cells _ rw=>rw.w
 | .rows _ _ _ rw=>rw.w
 | .str _ rw=>rw.w
 | .dead=>false
 | .map es=>!isMark es
 | _=>true
structure AH where
 n:Nat
 t:Tr ABlk
def AH.get (H:AH) (i:Nat): ABlk:=match H.t.get i with | some b=>b | none=> .dead
def AH.set (H:AH) (i:Nat) (b:ABlk): AH:={n:=H.n,t:=H.t.set i b}
def AH.new (H:AH) (b:ABlk): AH:={n:=H.n+1,t:=H.t.set H.n b}
@[simp] theorem AH.new_n (H:AH) (b:ABlk): (H.new b).n=H.n+1:=rfl
@[simp] theorem AH.set_n (H:AH) (i:Nat) (b:ABlk): (H.set i b).n=H.n:=rfl
theorem AH.get_set (H:AH) (i j:Nat) (b:ABlk): (H.set i b).get j=if j=i then b else H.get j:=by
 simp only [AH.get,AH.set,Tr.get_set]
 by_cases h:j=i<;>simp [h]
theorem AH.get_new (H:AH) (j:Nat) (b:ABlk): (H.new b).get j=if j=H.n then b else H.get j:=by
 simp only [AH.get,AH.new,Tr.get_set]
 by_cases h:j=H.n<;>simp [h]
theorem AH.get_new_same (H:AH) (b:ABlk): (H.new b).get H.n=b:=by rw [AH.get_new,if_pos rfl]
theorem AH.get_new_ne (H:AH) (b:ABlk) {i:Nat} (h:i≠H.n): (H.new b).get i=H.get i:=by rw [AH.get_new,if_neg h]
theorem AH.get_set_ne (H:AH) (b:ABlk) {i j:Nat} (h:i≠j): (H.set i b).get j=H.get j:=by rw [AH.get_set,if_neg (fun e=>h e.symm)]
theorem AH.get_set_same (H:AH) (b:ABlk) (i:Nat): (H.set i b).get i=b:=by rw [AH.get_set,if_pos rfl]
structure AccOk (rw:Access) (el:TypeId) (fr:Nat×Nat) (N:Nat): Prop where
 w:rw.w=true→ ∀ i,i<N→ ¬ (fr.1≤i∧i<fr.2)
 ty : ∀ e,rw= .ty e→el=e
def CellsRel (ρ:Env) (w:World) (o:Option (Nat×Nat)) (cs:List AV) (rw:Access): Prop :=
 (cs=[]∧o=none)∨ ∃ b N vs rest el fr,o=some (b,N)∧w.heap[b]? =some (.cells (vs++rest).toArray el fr)∧(vs++rest).length=N∧VRs ρ cs vs∧
   AccOk rw el fr N∧(∀ v∈vs,v.oneCell'=true)∧(rw= .ro→ρ.fz b=some (vs++rest))
def rowsOf (n:Nat) (f:Nat→List AV): List AV:=(List.range n).flatMap f
def byteRow (s:List UInt8) (i:Nat): List AV:=[.int .u8 (s.getD i 0).toNat]
def byteCells (s:List UInt8): List AV:=s.map fun b=> .int .u8 b.toNat
def isetMs (n:Nat) (K:Nat→Int): List MapEntry:=(List.range n).map fun i=>{key:=.int .i64 (K i),val:=.bool true,born:=i}
def BlkRel (ρ:Env) (w:World) (o:Option (Nat×Nat)): ABlk→Prop
 | .cells cs rw=>CellsRel ρ w o cs rw
 | .rows n e f rw=>(∀ i,i<n→(f i).length=e)∧CellsRel ρ w o (rowsOf n f) rw
 | .str s rw=>CellsRel ρ w o (byteCells s) rw
 | .map es=> ∃ b N,∃ (ms:List MapEntry) (clock:Nat),o=some (b,N)∧w.heap[b]? =some (.map ms.toArray clock)∧MapRel ρ es ms∧(es=[]→clock=0)
 | .loop st pd t nt ps as bd df=> ∃ b N d M fn vs,o=some (b,N)∧ρ df=some (d,M)∧TmpR ρ t nt vs∧
   w.heap[b]? =some (.loop {state:=st,pending:=pd,fn:=fn,tmps:=vs,params:=ps.toArray,assign:=as,body:=bd,defers:=d})
 | .dfr=> ∃ b N,o=some (b,N)∧w.heap[b]? =some (.deferred (some []))
 | .iter l=> ∃ b N m M since last,o=some (b,N)∧ρ l=some (m,M)∧since≤last∧w.heap[b]? =some (.mapIter (some m) since #[] last)
 | .iset n K=> ∃ b N,o=some (b,N)∧w.heap[b]? =some (.map (isetMs n K).toArray n)
 | .iwalk l since S=> ∃ b N m M,o=some (b,N)∧ρ l=some (m,M)∧w.heap[b]? =some (.mapIter (some m) since S.reverse.toArray since)
 | .dead=>True
def ABlk.un:ABlk→ABlk
 | .str s rw=> .rows s.length 1 (byteRow s) rw
 | b=>b
theorem ABlk.un_rw (b:ABlk): b.un.rw=b.rw:=by cases b<;>rfl
theorem rowsOf_bytes (s:List UInt8): rowsOf s.length (byteRow s)=byteCells s:=by
 have : ∀ n,n≤s.length→rowsOf n (byteRow s)=byteCells (s.take n):=by
  intro n
  induction n with
  | zero=>intro _;simp [rowsOf,byteCells]
  | succ n ih=>
   intro hn
   have:rowsOf (n+1) (byteRow s)=rowsOf n (byteRow s)++byteRow s n:=by simp [rowsOf,List.range_succ]
   rw [this,ih (by omega),List.take_add_one,List.getElem?_eq_getElem (by omega)]
   show _=List.map _ (_++_)
   rw [List.map_append]
   refine congr rfl ?_
   simp [byteRow,List.getD_eq_getElem?_getD,List.getElem?_eq_getElem (show n<s.length by omega)]
 simpa using this s.length (Nat.le_refl _)
theorem BlkRel.un {ρ:Env} {w:World} {o:Option (Nat×Nat)} {b:ABlk} (h:BlkRel ρ w o b): BlkRel ρ w o b.un:=by
 cases b with
 | str s rw=>exact ⟨fun _ _=>rfl,by rw [rowsOf_bytes];exact h⟩
 | _=>exact h
structure Ctx where
 w0:World
 Z:Nat→Prop
 G:Nat
 X:Nat→Prop
 E:Nat→Prop
 ρ0:Env
structure Rel (c:Ctx) (ρ:Env) (H:AH) (w:World): Prop where
 blk : ∀ l,BlkRel ρ w (ρ l) (H.get l)
 sep : ∀ l l' r N N',l≠l'→(H.get l).rw=true→ρ l=some (r,N)→ρ l'=some (r,N')→H.get l'= .dead
 prot : ∀ l r N,(H.get l).rw=true→ρ l=some (r,N)→ ¬ c.Z r
 keep : ∀ k,c.Z k∨c.X k→k<c.w0.heap.size∧w.heap[k]? =c.w0.heap[k]?
 size:c.w0.heap.size≤w.heap.size
 os:w.os=c.w0.os
 output:w.output=c.w0.output
 tape:w.tape=c.w0.tape
 top : ∀ l,H.n≤l→ρ l=none
 glob : ∀ g,g<c.G→ ∃ N,ρ g=some (g,N)
 hid : ∀ l r N,H.get l≠ .dead→ρ l=some (r,N)→ ¬ c.X r
 env : ∀ l,c.E l→l<H.n∧ρ l=c.ρ0 l
 low : ∀ l,H.n≤l→H.get l= .dead
 fro : ∀ b vs,ρ.fz b=some vs→ ∃ el fr,w.heap[b]? =some (.cells vs.toArray el fr)
 frw : ∀ l r N,(H.get l).rw=true→ρ l=some (r,N)→ρ.fz r=none
 frx : ∀ b,c.X b→ρ.fz b=none
 frk : ∀ b vs,c.ρ0.fz b=some vs→ρ.fz b=some vs
theorem Rel.below {c:Ctx} {ρ:Env} {H:AH} {w:World} (h:Rel c ρ H w) {l:Nat} (hd:H.get l≠ .dead): l<H.n:=Nat.lt_of_not_le fun hle=>hd (h.low l hle)
theorem Rel.belowRw {c:Ctx} {ρ:Env} {H:AH} {w:World} (h:Rel c ρ H w) {l:Nat} (hrw:(H.get l).rw=true): l<H.n:=h.below fun e=>by rw [e] at hrw;cases hrw
theorem CellsRel.ext {ρ ρ':Env} {w:World} {o:Option (Nat×Nat)} {cs:List AV} {rw:Access} (h:Ext ρ ρ') (k:CellsRel ρ w o cs rw): CellsRel ρ' w o cs rw:=by
 rcases k with k | ⟨b,N,vs,rest,el,fr,h1,h2,h3,h4,h5⟩
 ·exact .inl k
 ·exact .inr ⟨b,N,vs,rest,el,fr,h1,h2,h3,VRs.ext h _ _ h4,h5.1,h5.2.1,fun e=>h.fz _ _ (h5.2.2 e)⟩
theorem CellsRel.world {ρ:Env} {w w':World} {o:Option (Nat×Nat)} {cs:List AV} {rw:Access} (hb : ∀ r N,o=some (r,N)→w'.heap[r]? =w.heap[r]?) (k:CellsRel ρ w o cs rw): CellsRel ρ w' o cs rw:=by
 rcases k with k | ⟨b,N,vs,rest,el,fr,h1,h2,h3⟩
 ·exact .inl k
 ·exact .inr ⟨b,N,vs,rest,el,fr,h1,(hb _ _ h1).trans h2,h3⟩
theorem CellsRel.lt {ρ:Env} {w:World} {r N:Nat} {cs:List AV} {rw:Access} (k:CellsRel ρ w (some (r,N)) cs rw): r<w.heap.size:=by
 rcases k with ⟨_,k⟩ | ⟨b,N,vs,rest,el,fr,h1,h2,_⟩
 ·cases k
 ·cases h1;exact (Array.getElem?_eq_some_iff.1 h2).1
theorem BlkRel.ext {ρ ρ':Env} {w:World} {o:Option (Nat×Nat)} {b:ABlk} (h:Ext ρ ρ') (k:BlkRel ρ w o b): BlkRel ρ' w o b:=by
 cases b with
 | cells cs rw=>exact CellsRel.ext h k
 | rows n e f rw=>exact ⟨k.1,CellsRel.ext h k.2⟩
 | str s rw=>exact CellsRel.ext h k
 | map es=>
  obtain ⟨b,N,ms,clock,h1,h2,⟨ms',h3,h4,h5⟩,h6⟩:=k
  exact ⟨b,N,ms,clock,h1,h2,⟨ms',VRs.ext h _ _ h3,VRs.ext h _ _ h4,h5⟩,h6⟩
 | loop st pd t nt ps as bd df=>
  obtain ⟨b,N,d,M,fn,vs,h1,h2,h3,h4⟩:=k
  exact ⟨b,N,d,M,fn,vs,h1,h _ _ h2,h3.ext h,h4⟩
 | dfr=>exact k
 | iter l=>
  obtain ⟨b,N,m,M,since,last,h1,h2,h3⟩:=k
  exact ⟨b,N,m,M,since,last,h1,h _ _ h2,h3⟩
 | iset n K=>exact k
 | iwalk l since S=>
  obtain ⟨b,N,m,M,h1,h2,h3⟩:=k
  exact ⟨b,N,m,M,h1,h _ _ h2,h3⟩
 | dead=>trivial
theorem BlkRel.world {ρ:Env} {w w':World} {o:Option (Nat×Nat)} {b:ABlk} (hb : ∀ r N,o=some (r,N)→w'.heap[r]? =w.heap[r]?) (k:BlkRel ρ w o b): BlkRel ρ w' o b:=by
 cases b with
 | cells cs rw=>exact CellsRel.world hb k
 | rows n e f rw=>exact ⟨k.1,CellsRel.world hb k.2⟩
 | str s rw=>exact CellsRel.world hb k
 | map es=>
  obtain ⟨b,N,ms,clock,h1,h2,h3⟩:=k
  exact ⟨b,N,ms,clock,h1,(hb _ _ h1).trans h2,h3⟩
 | loop st pd t nt ps as bd df=>
  obtain ⟨b,N,d,M,fn,vs,h1,h2,h3,h4⟩:=k
  exact ⟨b,N,d,M,fn,vs,h1,h2,h3,(hb _ _ h1).trans h4⟩
 | dfr=>
  obtain ⟨b,N,h1,h2⟩:=k
  exact ⟨b,N,h1,(hb _ _ h1).trans h2⟩
 | iter l=>
  obtain ⟨b,N,m,M,since,last,h1,h2,h3,h4⟩:=k
  exact ⟨b,N,m,M,since,last,h1,h2,h3,(hb _ _ h1).trans h4⟩
 | iset n K=>
  obtain ⟨b,N,h1,h2⟩:=k
  exact ⟨b,N,h1,(hb _ _ h1).trans h2⟩
 | iwalk l since S=>
  obtain ⟨b,N,m,M,h1,h2,h3⟩:=k
  exact ⟨b,N,m,M,h1,h2,(hb _ _ h1).trans h3⟩
 | dead=>trivial
theorem Rel.congr {c:Ctx} {ρ:Env} {H H':AH} {w:World} (h:Rel c ρ H w) (hn:H'.n=H.n) (hg : ∀ i,H'.get i=H.get i): Rel c ρ H' w :=
 ⟨fun l=>by rw [hg];exact h.blk l,fun l l' r N N' hne hrw h1 h2=>by rw [hg] at hrw⊢;exact h.sep l l' r N N' hne hrw h1 h2,fun l r N hrw h1=>by rw [hg] at hrw;exact h.prot l r N hrw h1,
  h.keep,h.size,h.os,h.output,h.tape,fun l hl=>h.top l (by omega),h.glob,fun l r N hd h1=>by rw [hg] at hd;exact h.hid l r N hd h1,fun l hl=>by rw [hn];exact h.env l hl,fun l hl=>by rw [hg];exact h.low l (by omega),h.fro,fun l r N hrw h1=>by rw [hg] at hrw;exact h.frw l r N hrw h1,h.frx,h.frk⟩
theorem Rel.drawn {c:Ctx} {ρ:Env} {H:AH} {w:World} (h:Rel c ρ H w) (n:Nat): Rel c ρ H {w with drawn:=n}:=
 ⟨fun l=>BlkRel.world (fun _ _ _=>rfl) (h.blk l),h.sep,h.prot,h.keep,h.size,h.os,h.output,h.tape,h.top,h.glob,h.hid,h.env,h.low,h.fro,h.frw,h.frx,h.frk⟩
def Env.put (ρ:Env) (l:Nat) (x:Nat×Nat): Env:=⟨fun i=>if i=l then some x else ρ i,ρ.fz⟩
theorem Env.put_fz (ρ:Env) (l:Nat) (x:Nat×Nat): (ρ.put l x).fz=ρ.fz:=rfl
theorem Env.put_same (ρ:Env) (l:Nat) (x:Nat×Nat): ρ.put l x l=some x:=by simp [Env.put]
theorem Env.put_ne (ρ:Env) {l i:Nat} (x:Nat×Nat) (h:i≠l): ρ.put l x i=ρ i:=by simp [Env.put,h]
theorem Env.ext_put {ρ:Env} {l:Nat} (x:Nat×Nat) (h:ρ l=none): Ext ρ (ρ.put l x):=by
 refine ⟨fun i y e=>?_,fun _ _ e=>e⟩
 by_cases hi:i=l
 ·subst hi;rw [h] at e;cases e
 ·rw [Env.put_ne _ _ hi];exact e
theorem Rel.lt {c:Ctx} {ρ:Env} {H:AH} {w:World} (h:Rel c ρ H w) {l r N:Nat} (hl:H.get l≠ .dead) (hr:ρ l=some (r,N)): r<w.heap.size:=by
 have:=h.blk l
 have key : ∀ o,w.heap[r]? =some o→r<w.heap.size:=fun o e=>(Array.getElem?_eq_some_iff.1 e).1
 cases hb:H.get l with
 | dead=>exact absurd hb hl
 | cells cs rw=>rw [hb,hr] at this;exact CellsRel.lt this
 | rows n e f rw=>rw [hb,hr] at this;exact CellsRel.lt this.2
 | str s rw=>rw [hb,hr] at this;exact CellsRel.lt this
 | map es=>
  rw [hb,hr] at this
  obtain ⟨b,N',ms,clock,h1,h2,_⟩:=this
  cases h1;exact key _ h2
 | loop st pd t nt ps as bd df=>
  rw [hb,hr] at this
  obtain ⟨b,N',d,M,fn,vs,h1,_,_,h4⟩:=this
  cases h1;exact key _ h4
 | dfr=>
  rw [hb,hr] at this
  obtain ⟨b,N',h1,h2⟩:=this
  cases h1;exact key _ h2
 | iter l=>
  rw [hb,hr] at this
  obtain ⟨b,N',m,M,since,last,h1,h2,h3,h4⟩:=this
  cases h1;exact key _ h4
 | iset n K=>
  rw [hb,hr] at this
  obtain ⟨b,N',h1,h2⟩:=this
  cases h1;exact key _ h2
 | iwalk l since S=>
  rw [hb,hr] at this
  obtain ⟨b,N',m,M,h1,h2,h3⟩:=this
  cases h1;exact key _ h3
theorem heap_push_old {w:World} {o:Obj} {k:Nat} (h:k<w.heap.size): (w.heap.push o)[k]? =w.heap[k]? :=by
 rw [Array.getElem?_push,if_neg (by omega)]
theorem Rel.new {c:Ctx} {ρ:Env} {H:AH} {w:World} (h:Rel c ρ H w) (o:Obj) (N:Nat) (b:ABlk)
  (hb : ∀ w':World,w'.heap[w.heap.size]? =some o→BlkRel (ρ.put H.n (w.heap.size,N)) w' (some (w.heap.size,N)) b):
  Ext ρ (ρ.put H.n (w.heap.size,N))∧Rel c (ρ.put H.n (w.heap.size,N)) (H.new b) {w with heap:=w.heap.push o}:=by
 have hn:ρ H.n=none:=h.top _ (Nat.le_refl _)
 have hx:=Env.ext_put (w.heap.size,N) hn
 refine ⟨hx,⟨fun l=>?_,fun l l' r M M' hne hrw h1 h2=>?_,fun l r M hrw h1=>?_,fun k hk=>?_,?_,h.os,h.output,h.tape,fun l hl=>?_,fun g hg=>?_,fun l r M hd h1=>?_,fun l hl=>?_,fun l hl=>by rw [AH.get_new_ne _ _ (by simp at hl;omega)];exact h.low l (by simp at hl;omega),fun k vs e=>?_,fun l r M hrw h1=>?_,h.frx,h.frk⟩⟩
 ·by_cases hl:l=H.n
  ·subst hl
   rw [AH.get_new_same,Env.put_same]
   exact hb _ (by simp)
  ·rw [AH.get_new_ne _ _ hl,Env.put_ne _ _ hl]
   by_cases hd:H.get l= .dead
   ·rw [hd];trivial
   ·exact BlkRel.world (fun r M e=>heap_push_old (h.lt hd e)) ((h.blk l).ext hx)
 ·by_cases hl:l=H.n
  ·subst hl
   rw [Env.put_same] at h1
   cases h1
   have hl':l'≠H.n:=fun e=>hne e.symm
   rw [Env.put_ne _ _ hl'] at h2
   rw [AH.get_new_ne _ _ hl']
   apply Classical.byContradiction
   intro hd
   have:=h.lt hd h2
   omega
  ·rw [Env.put_ne _ _ hl] at h1
   rw [AH.get_new_ne _ _ hl] at hrw
   have hd:H.get l≠ .dead:=fun e=>by rw [e] at hrw;cases hrw
   have hlt:=h.lt hd h1
   by_cases hl':l'=H.n
   ·subst hl'
    rw [Env.put_same] at h2
    cases h2
    omega
   ·rw [Env.put_ne _ _ hl'] at h2
    rw [AH.get_new_ne _ _ hl']
    exact h.sep l l' r M M' hne hrw h1 h2
 ·by_cases hl:l=H.n
  ·subst hl
   rw [Env.put_same] at h1
   cases h1
   intro hz
   have:=(h.keep _ (.inl hz)).1
   have:=h.size
   omega
  ·rw [Env.put_ne _ _ hl] at h1
   rw [AH.get_new_ne _ _ hl] at hrw
   exact h.prot l r M hrw h1
 ·obtain ⟨h1,h2⟩:=h.keep k hk
  refine ⟨h1,?_⟩
  rw [←h2]
  exact heap_push_old (by have:=h.size;omega)
 ·have:=h.size;simp;omega
 ·rw [Env.put_ne _ _ (by simp at hl;omega)]
  exact h.top l (by simp at hl;omega)
 ·obtain ⟨M,hM⟩:=h.glob g hg
  exact ⟨M,hx _ _ hM⟩
 ·by_cases hl:l=H.n
  ·subst hl
   rw [Env.put_same] at h1
   cases h1
   intro hz
   have:=(h.keep _ (.inr hz)).1
   have:=h.size
   omega
  ·rw [Env.put_ne _ _ hl] at h1
   rw [AH.get_new_ne _ _ hl] at hd
   exact h.hid l r M hd h1
 ·obtain ⟨h1,h2⟩:=h.env l hl
  exact ⟨by simp;omega,by rw [Env.put_ne _ _ (by omega)];exact h2⟩
 ·obtain ⟨el,fr,e2⟩:=h.fro k vs e
  exact ⟨el,fr,(heap_push_old (Array.getElem?_eq_some_iff.1 e2).1).trans e2⟩
 ·by_cases hl:l=H.n
  ·subst hl
   rw [Env.put_same] at h1
   cases h1
   cases hf:ρ.fz w.heap.size with
   | none=>exact hf
   | some vs=>
    obtain ⟨el,fr,e2⟩:=h.fro _ _ hf
    exact absurd (Array.getElem?_eq_some_iff.1 e2).1 (Nat.lt_irrefl _)
  ·rw [Env.put_ne _ _ hl] at h1
   rw [AH.get_new_ne _ _ hl] at hrw
   exact h.frw l r M hrw h1
theorem Rel.turn {c:Ctx} {ρ:Env} {H:AH} {w w':World} (h:Rel c ρ H w) {l r N:Nat} (b:ABlk) (hrw:(H.get l).rw=true) (hr:ρ l=some (r,N))
  (hother : ∀ k,k≠r→w'.heap[k]? =w.heap[k]?) (hsz:w'.heap.size=w.heap.size) (hos:w'.os=w.os) (hout:w'.output=w.output) (htape:w'.tape=w.tape)
  (hb:BlkRel ρ w' (some (r,N)) b): Rel c ρ (H.set l b) w':=by
 have hget : ∀ l',l'≠l→(H.set l b).get l'=H.get l':=fun l' e=>AH.get_set_ne _ _ (fun e'=>e e'.symm)
 refine ⟨fun l'=>?_,fun l1 l2 r1 M M' hne hrw1 h1 h2=>?_,fun l' r' M hrw' h1=>?_,fun k hk=>?_,?_,hos.trans h.os,hout.trans h.output,htape.trans h.tape,fun l' hl'=>h.top l' (by simpa using hl'),h.glob,fun l' r' M hd h1=>?_,fun l' hl'=>by simpa using h.env l' hl',fun l' hl'=>by rw [hget l' (fun e=>by subst e;have:=h.belowRw hrw;simp at hl';omega)];exact h.low l' (by simpa using hl'),fun k vs e=>?_,fun l' r' M hrw' h1=>?_,h.frx,h.frk⟩
 ·by_cases hl:l'=l
  ·subst hl
   rw [AH.get_set_same,hr];exact hb
  ·rw [hget l' hl]
   by_cases hd:H.get l'= .dead
   ·rw [hd];trivial
   ·refine BlkRel.world (fun r' M e=>hother r' fun e'=>?_) (h.blk l')
    subst e'
    exact hd (h.sep l l' r' N M (fun e=>hl e.symm) hrw hr e)
 ·by_cases hl1:l1=l
  ·subst hl1
   rw [hget l2 (fun e=>hne e.symm)]
   exact h.sep l1 l2 r1 M M' hne hrw h1 h2
  ·rw [hget l1 hl1] at hrw1
   by_cases hl2:l2=l
   ·subst hl2
    have:=h.sep l1 l2 r1 M M' hne hrw1 h1 h2
    rw [this] at hrw;cases hrw
   ·rw [hget l2 hl2]
    exact h.sep l1 l2 r1 M M' hne hrw1 h1 h2
 ·by_cases hl:l'=l
  ·subst hl
   exact h.prot l' r' M hrw h1
  ·rw [hget l' hl] at hrw'
   exact h.prot l' r' M hrw' h1
 ·obtain ⟨h1,h2⟩:=h.keep k hk
  refine ⟨h1,?_⟩
  rw [←h2]
  refine hother k fun e=>?_
  subst e
  exact hk.elim (h.prot l k N hrw hr) (h.hid l k N (fun e=>by rw [e] at hrw;cases hrw) hr)
 ·rw [hsz];exact h.size
 ·by_cases hl:l'=l
  ·subst hl
   exact h.hid l' r' M (fun e=>by rw [e] at hrw;cases hrw) h1
  ·rw [hget l' hl] at hd
   exact h.hid l' r' M hd h1
 ·obtain ⟨el,fr,e2⟩:=h.fro k vs e
  refine ⟨el,fr,(hother k fun e'=>?_).trans e2⟩
  subst e'
  have:=h.frw l k N hrw hr
  rw [this] at e;cases e
 ·by_cases hl:l'=l
  ·subst hl
   exact h.frw l' r' M hrw h1
  ·rw [hget l' hl] at hrw'
   exact h.frw l' r' M hrw' h1
theorem Rel.kill {c:Ctx} {ρ:Env} {H:AH} {w:World} (h:Rel c ρ H w) (l:Nat): Rel c ρ (H.set l .dead) w:=by
 have hget : ∀ l',(H.set l .dead).get l'=H.get l'∨(H.set l .dead).get l'= .dead:=fun l'=>by
  by_cases e:l'=l
  ·subst e
   exact .inr (AH.get_set_same H .dead l')
  ·exact .inl (AH.get_set_ne _ _ (fun e'=>e e'.symm))
 refine ⟨fun l'=>?_,fun l1 l2 r M M' hne hrw h1 h2=>?_,fun l' r M hrw h1=>?_,h.keep,h.size,h.os,h.output,h.tape,fun l' hl'=>h.top l' (by simpa using hl'),h.glob,fun l' r M hd h1=>?_,fun l' hl'=>by simpa using h.env l' hl',fun l' hl'=>(hget l').elim (fun e=>e.trans (h.low l' (by simpa using hl'))) id,h.fro,fun l' r M hrw h1=>?_,h.frx,h.frk⟩
 ·rcases hget l' with e | e
  ·rw [e];exact h.blk l'
  ·rw [e];trivial
 ·rcases hget l1 with e | e
  ·rw [e] at hrw
   rcases hget l2 with e2 | e2
   ·rw [e2];exact h.sep l1 l2 r M M' hne hrw h1 h2
   ·exact e2
  ·rw [e] at hrw;cases hrw
 ·rcases hget l' with e | e
  ·rw [e] at hrw;exact h.prot l' r M hrw h1
  ·rw [e] at hrw;cases hrw
 ·rcases hget l' with e | e
  ·rw [e] at hd;exact h.hid l' r M hd h1
  ·exact absurd e hd
 ·rcases hget l' with e | e
  ·rw [e] at hrw;exact h.frw l' r M hrw h1
  ·rw [e] at hrw;cases hrw
end Go.Sx
end
section
namespace Go.Sx
open Go
structure RI (R:Type) where
 fail:R
 cond:Bool→(Unit→R)→(Unit→R)→R
 assert:Bool→R→R
structure RI.Ok {R:Type} (X:RI R) (sem:R→Prop): Prop where
 fail : ¬ sem X.fail
 cond : ∀ b x y,sem (X.cond b x y)→if b=true then sem (x ()) else sem (y ())
 assert : ∀ b x,sem (X.assert b x)→b=true∧sem x
def Cond (b:Bool) (x y:Prop): Prop:=match b with | true=>x | false=>y
def Asks (b:Bool) (x:Prop): Prop:=match b with | true=>x | false=>False
theorem Asks.mk {b:Bool} {x:Prop} (h:b=true) (k:x): Asks b x:=by subst h;exact k
theorem Cond.mk {b:Bool} {x y:Prop} (h:b=true→x) (k:b=false→y): Cond b x y:=by cases b with | true=>exact h rfl | false=>exact k rfl
def RI.prop:RI Prop:={fail:=False,cond:=fun b x y=>Cond b (x ()) (y ()),assert:=Asks}
theorem RI.prop_ok:RI.prop.Ok id:=⟨fun h=>h,fun b _ _ h=>by cases b<;>exact h,fun b _ h=>by
 cases b with
 | true=>exact ⟨rfl,h⟩
 | false=>exact h.elim⟩
mutual
def ofVal:Value→Option AV
 | .bool b=>some (.bool b)
 | .int k n=>some (.int k n)
 | .string ⟨⟨s⟩⟩=>some (.str s)
 | .pointer none=>some .nilPtr
 | .slice none 0 0=>some .nilSlice
 | .map none=>some (.map none)
 | .nilFunc=>some .nilFn
 | .nilIface=>some .nilIface
 | .func (.func f) ⟨[]⟩ ⟨[]⟩=>some (.fn f [] [])
 | .iface t v=>(ofVal v).map (.iface t)
 | .agg ⟨cs⟩=>(ofVals cs).map .agg
 | .tuple ⟨cs⟩=>(ofVals cs).map .tup
 | _=>none
def ofVals:List Value→Option (List AV)
 | []=>some []
 | v::vs=>(ofVal v).bind fun a=>(ofVals vs).map (a :: ·)
end
mutual
theorem ofVal_ok (ρ:Env): ∀ (v:Value) (a:AV),ofVal v=some a→VR ρ a v
 | .bool b,a,h=>by simp only [ofVal,Option.some.injEq] at h;subst h;simp [VR]
 | .int k n,a,h=>by simp only [ofVal,Option.some.injEq] at h;subst h;simp [VR]
 | .string ⟨⟨s⟩⟩,a,h=>by simp only [ofVal,Option.some.injEq] at h;subst h;simp [VR]
 | .pointer none,a,h=>by simp only [ofVal,Option.some.injEq] at h;subst h;simp [VR]
 | .slice none 0 0,a,h=>by simp only [ofVal,Option.some.injEq] at h;subst h;simp [VR]
 | .map none,a,h=>by simp only [ofVal,Option.some.injEq] at h;subst h;simp [VR]
 | .nilFunc,a,h=>by simp only [ofVal,Option.some.injEq] at h;subst h;simp [VR]
 | .nilIface,a,h=>by simp only [ofVal,Option.some.injEq] at h;subst h;simp [VR]
 | .func (.func f) ⟨[]⟩ ⟨[]⟩,a,h=>by
  simp only [ofVal,Option.some.injEq] at h
  subst h
  simp only [VR]
  exact ⟨[],[],rfl,by simp [VRs],by simp [VRs]⟩
 | .func (.func _) ⟨[]⟩ ⟨_::_⟩,a,h=>by simp [ofVal] at h
 | .iface t v,a,h=>by
  simp only [ofVal,Option.map_eq_some_iff] at h
  obtain ⟨x,h1,rfl⟩:=h
  simp only [VR]
  exact ⟨v,rfl,ofVal_ok ρ v x h1⟩
 | .agg ⟨cs⟩,a,h=>by
  simp only [ofVal,Option.map_eq_some_iff] at h
  obtain ⟨as,h1,rfl⟩:=h
  simp only [VR]
  exact ⟨cs,rfl,ofVals_ok ρ cs as h1⟩
 | .tuple ⟨cs⟩,a,h=>by
  simp only [ofVal,Option.map_eq_some_iff] at h
  obtain ⟨as,h1,rfl⟩:=h
  simp only [VR]
  exact ⟨cs,rfl,ofVals_ok ρ cs as h1⟩
 | .float _ _,a,h=>by simp [ofVal] at h
 | .complex _ _ _,a,h=>by simp [ofVal] at h
 | .pointer (some _),a,h=>by simp [ofVal] at h
 | .slice (some _) _ _,a,h=>by simp [ofVal] at h
 | .slice none (_+1) _,a,h=>by simp [ofVal] at h
 | .slice none 0 (_+1),a,h=>by simp [ofVal] at h
 | .map (some _),a,h=>by simp [ofVal] at h
 | .chan _,a,h=>by simp [ofVal] at h
 | .func (.func _) ⟨_::_⟩ _,a,h=>by simp [ofVal] at h
 | .func (.method _) _ _,a,h=>by simp [ofVal] at h
 | .func (.methodOf _ _) _ _,a,h=>by simp [ofVal] at h
 | .func (.via _ _ _ _) _ _,a,h=>by simp [ofVal] at h
 | .func (.yield _) _ _,a,h=>by simp [ofVal] at h
theorem ofVals_ok (ρ:Env): ∀ (vs:List Value) (as:List AV),ofVals vs=some as→VRs ρ as vs
 | [],as,h=>by simp only [ofVals,Option.some.injEq] at h;subst h;simp [VRs]
 | v::vs,as,h=>by
  simp only [ofVals,Option.bind_eq_some_iff,Option.map_eq_some_iff] at h
  obtain ⟨a,h1,bs,h2,rfl⟩:=h
  exact VRs.cons_iff.2 ⟨ofVal_ok ρ v a h1,ofVals_ok ρ vs bs h2⟩
end
structure Info where
 und:TypeId→Option TypeDesc
 size:TypeId→Option Nat
 bytes:TypeId→Option Nat
 zero:TypeId→Option AV
 body:FuncId→Option (Code×Nat×List ResultVar)
 eqg:TypeId→Bool
 fields:TypeId→Option (List (TypeId×Nat))
 held:TypeId→Bool
 G:Nat
 wr:Bool
structure Info.Ok (I:Info) (P:Program): Prop where
 und : ∀ t d,I.und t=some d→P.underlying t=some d
 size : ∀ t n,I.size t=some n→ ∃ i,P.info? t=some i∧i.size=n
 bytes : ∀ t n,I.bytes t=some n→ ∃ i,P.info? t=some i∧i.bytes=n
 zero : ∀ t a,I.zero t=some a→ ∃ i z,P.info? t=some i∧i.zero=some z∧ofVal z=some a
 body : ∀ f c n rs,I.body f=some (c,n,rs)→ ∃ fn,P.funcs[f]? =some fn∧fn.body=some c∧fn.ntmps=n∧fn.results.toList=rs∧ ∀ args w,(callFunc f args).run P w= .ok (.enter f args) w
 eqg : ∀ t,I.eqg t=true→P.eqGuardType P.depth t=false
 fields : ∀ t l,I.fields t=some l→ ∃ fs,P.underlying t=some (.struct fs)∧l=fs.toList.map (fun f=>(f.type,f.offset))∧ ∀ f∈fs.toList,f.name≠ "_"
 held : ∀ t,I.held t=true→P.stoodInHeld t=false
 mixed:P.follows .mixedOrders=true
section
variable {I:Info} {P:Program} (hI:I.Ok P) (w:World)
include hI
theorem Info.Ok.run_und {t:TypeId} {d:TypeDesc} (h:I.und t=some d): (underlying t).run P w= .ok d w:=by
 simp [underlying,hI.und t d h]
theorem Info.Ok.run_size {t:TypeId} {n:Nat} (h:I.size t=some n): (sizeOf t).run P w= .ok n w:=by
 obtain ⟨i,h1,h2⟩:=hI.size t n h
 simp [sizeOf,typeInfo,h1,h2]
theorem Info.Ok.run_zero {t:TypeId} {a:AV} (h:I.zero t=some a): ∃ z,(zeroValue t).run P w= .ok z w∧ ∀ ρ,VR ρ a z:=by
 obtain ⟨i,z,h1,h2,h3⟩:=hI.zero t a h
 exact ⟨z,by simp [zeroValue,typeInfo,h1,h2],fun ρ=>ofVal_ok ρ z a h3⟩
end
def AV.one:AV→Bool
 | .agg _ | .tup _ | .any=>false
 | _=>true
def AV.cells? : AV→Option (List AV)
 | .agg cs=>bif cs.all AV.one then some cs else none
 | .tup _ | .any=>none
 | a=>some [a]
theorem AV.cells_ones {a:AV} {cs:List AV} (h:a.cells? =some cs): cs.all AV.one=true:=by
 cases a<;>simp only [AV.cells?,Option.some.injEq,reduceCtorEq] at h
 case agg xs=>
  cases hx:xs.all AV.one<;>rw [hx] at h<;>simp at h
  subst h;exact hx
 all_goals subst h;rfl
theorem VR.one {ρ:Env} {a:AV} {v:Value} (h:VR ρ a v) (ha:a.one=true): v.oneCell'=true:=by
 cases a with
 | bool | int | str | nilPtr | nilSlice | nilFn | nilIface=>simp only [VR] at h;subst h;rfl
 | ptr=>simp only [VR] at h;obtain ⟨_,_,_,rfl⟩:=h;rfl
 | slice=>simp only [VR] at h;obtain ⟨_,_,_,_,_,rfl,_⟩:=h;rfl
 | own=>simp only [VR] at h;rcases h with ⟨_,rfl⟩ | ⟨_,_,_,_,rfl,_⟩<;>rfl
 | map l=>
  cases l<;>simp only [VR] at h
  ·subst h;rfl
  ·obtain ⟨_,_,_,rfl⟩:=h;rfl
 | fn=>simp only [VR] at h;obtain ⟨_,_,rfl,_⟩:=h;rfl
 | yield=>simp only [VR] at h;obtain ⟨_,_,_,rfl⟩:=h;rfl
 | iface=>simp only [VR] at h;obtain ⟨_,rfl,_⟩:=h;rfl
 | fptr=>simp only [VR] at h;obtain ⟨_,_,_,rfl,_⟩:=h;rfl
 | fslice=>simp only [VR] at h;rcases h with ⟨_,rfl⟩ | ⟨_,_,_,_,_,rfl,_⟩<;>rfl
 | agg | tup | any=>simp [AV.one] at ha
theorem VR.cells_one {ρ:Env} {a:AV} {v:Value} (h:VR ρ a v) (ha:a.one=true): v.cells.toList=[v]:=by
 have:=VR.one h ha
 cases v<;>simp_all [Value.oneCell',Value.cells]
theorem VR.cells {ρ:Env} {a:AV} {v:Value} {cs:List AV} (h:VR ρ a v) (hc:a.cells? =some cs): VRs ρ cs v.cells.toList:=by
 by_cases ha:a.one=true
 ·rw [VR.cells_one h ha]
  have:cs=[a]:=by cases a<;>simp_all [AV.one,AV.cells?]
  subst this
  exact VRs.cons_iff.2 ⟨h,by simp [VRs]⟩
 ·cases a with
  | agg xs=>
   simp only [AV.cells?] at hc
   cases hx:xs.all AV.one<;>rw [hx] at hc<;>simp at hc
   subst hc
   simp only [VR] at h
   obtain ⟨vs,rfl,h⟩:=h
   simpa [Value.cells] using h
  | tup | any=>simp [AV.cells?] at hc
  | _=>simp [AV.one] at ha
theorem VRs.ones {ρ:Env}: ∀ {as:List AV} {vs:List Value},VRs ρ as vs→as.all AV.one=true→ ∀ v∈vs,v.oneCell'=true
 | [],vs,h,_,v,hv=>by simp only [VRs] at h;subst h;cases hv
 | a::as,vs,h,ha,v,hv=>by
  simp only [VRs] at h
  obtain ⟨u,us,rfl,r,s⟩:=h
  simp only [List.all_cons,Bool.and_eq_true] at ha
  rcases List.mem_cons.1 hv with rfl | hv
  ·exact VR.one r ha.1
  ·exact VRs.ones s ha.2 v hv
theorem addr_add (b o n:Nat): Addr.add ⟨b,o,none⟩ n=⟨b,o+n,none⟩:=by
 unfold Addr.add
 split
 ·rename_i h;subst h;rfl
 ·rfl
def ABlk.at0:ABlk→(k e j n:Nat)→Option (Bool×List AV)
 | .cells cs _,k,e,j,n=>some (decide (k*e+j+n≤cs.length),(cs.drop (k*e+j)).take n)
 | .rows m e' f _,k,e,j,n=>if e=e'∧j+n≤e' then some (decide (k<m),((f k).drop j).take n) else none
 | _,_,_,_,_=>none
def ABlk.at (b:ABlk) (k e j n:Nat): Option (Bool×List AV):=b.un.at0 k e j n
theorem rowsOf_succ (n:Nat) (f:Nat→List AV): rowsOf (n+1) f=rowsOf n f++f n:=by simp [rowsOf,List.range_succ]
theorem rowsOf_length {n e:Nat} {f:Nat→List AV} (h : ∀ i,i<n→(f i).length=e): (rowsOf n f).length=n*e:=by
 induction n with
 | zero=>simp [rowsOf]
 | succ n ih=>
  rw [rowsOf_succ,List.length_append,ih (fun i hi=>h i (by omega)),h n (by omega),Nat.succ_mul]
theorem rowsOf_drop {n e:Nat} {f:Nat→List AV} (h : ∀ i,i<n→(f i).length=e) {k:Nat} (hk:k<n): ∃ t,(rowsOf n f).drop (k*e)=f k++t:=by
 induction n with
 | zero=>omega
 | succ n ih=>
  have hl:=rowsOf_length (n:=n) (e:=e) (f:=f) (fun i hi=>h i (by omega))
  rw [rowsOf_succ]
  by_cases hkn:k<n
  ·obtain ⟨t,ht⟩:=ih (fun i hi=>h i (by omega)) hkn
   have:k*e≤n*e:=Nat.mul_le_mul_right e (by omega)
   exact ⟨t++f n,by rw [List.drop_append_of_le_length (by omega),ht,List.append_assoc]⟩
  ·have:k=n:=by omega
   subst this
   exact ⟨[],by rw [List.drop_append,hl];simp [←hl]⟩
theorem ABlk.at_ok0 {ρ:Env} {w:World} {r N:Nat} {b:ABlk} {k e j n:Nat} {xs:List AV} (h:BlkRel ρ w (some (r,N)) b) (ha:b.at0 k e j n=some (true,xs)):
  ∃ us:List Value,VRs ρ xs us∧us.length=n∧k*e+j+n≤N∧ ∀ (i:Nat) v,us[i]? =some v→w.cell? ⟨r,k*e+j+i,none⟩=some v:=by
 have key : ∀ (cs:List AV) rw,CellsRel ρ w (some (r,N)) cs rw→k*e+j+n≤cs.length→ ∃ us:List Value,VRs ρ ((cs.drop (k*e+j)).take n) us∧us.length=n∧k*e+j+n≤N∧
   ∀ (i:Nat) v,us[i]? =some v→w.cell? ⟨r,k*e+j+i,none⟩=some v:=by
  intro cs rw hc hl
  rcases hc with ⟨_,h0⟩ | ⟨b,N',vs,rest,el,fr,h1,h2,h3,h4,_⟩
  ·cases h0
  ·cases h1
   have hlen:=h4.length_eq
   refine ⟨(vs.drop (k*e+j)).take n,(h4.drop _).take _,by simp;omega,by simp at h3;omega,fun i v hv=>?_⟩
   have hi:i<n:=by
    have:=List.getElem?_eq_some_iff.1 hv
    obtain ⟨h,_⟩:=this
    simp at h;omega
   rw [List.getElem?_take_of_lt hi,List.getElem?_drop] at hv
   simp only [World.cell?,h2]
   simp only [Option.isSome_none,Bool.false_eq_true,if_false]
   rw [List.getElem?_toArray,List.getElem?_append_left (List.getElem?_eq_some_iff.1 hv).1]
   exact hv
 cases b with
 | cells cs rw=>
  simp only [ABlk.at0,Option.some.injEq,Prod.mk.injEq,decide_eq_true_eq] at ha
  obtain ⟨hl,rfl⟩:=ha
  exact key cs rw h hl
 | rows m e' f rw=>
  simp only [ABlk.at0] at ha
  split at ha
  ·rename_i hc
   obtain ⟨rfl,hj⟩:=hc
   simp only [Option.some.injEq,Prod.mk.injEq,decide_eq_true_eq] at ha
   obtain ⟨hk,rfl⟩:=ha
   have hlen:=rowsOf_length h.1
   have hle:k*e+e≤m*e:=by
    have:=Nat.mul_le_mul_right e (show k+1≤m by omega)
    rw [Nat.succ_mul] at this;exact this
   obtain ⟨t,ht⟩:=rowsOf_drop h.1 hk
   have:=key (rowsOf m f) rw h.2 (by omega)
   rw [←List.drop_drop,ht,List.drop_append_of_le_length (by rw [h.1 k hk];omega),List.take_append_of_le_length (by rw [List.length_drop,h.1 k hk];omega)] at this
   exact this
  ·cases ha
 | str=>simp [ABlk.at0] at ha
 | map es=>simp [ABlk.at0] at ha
 | loop=>simp [ABlk.at0] at ha
 | dfr=>simp [ABlk.at0] at ha
 | iter=>simp [ABlk.at0] at ha
 | iset=>simp [ABlk.at0] at ha
 | iwalk=>simp [ABlk.at0] at ha
 | dead=>simp [ABlk.at0] at ha
theorem ABlk.at_ok {ρ:Env} {w:World} {r N:Nat} {b:ABlk} {k e j n:Nat} {xs:List AV} (h:BlkRel ρ w (some (r,N)) b) (ha:b.at k e j n=some (true,xs)):
  ∃ us:List Value,VRs ρ xs us∧us.length=n∧k*e+j+n≤N∧ ∀ (i:Nat) v,us[i]? =some v→w.cell? ⟨r,k*e+j+i,none⟩=some v:=ABlk.at_ok0 h.un ha
theorem run_loadCells_us {P:Program} {w:World} {r o:Nat} {us:List Value} (h : ∀ (i:Nat) v,us[i]? =some v→w.cell? ⟨r,o+i,none⟩=some v):
  (loadCells ⟨r,o,none⟩ us.length).run P w= .ok us.toArray w:=by
 have key : ∀ (n i:Nat) (acc:Array Value),i+n=us.length→(loadCellsFrom ⟨r,o,none⟩ i n acc).run P w= .ok (acc++(us.drop i).toArray) w:=by
  intro n
  induction n with
  | zero=>
   intro i acc hi
   have:us.drop i=[]:=by simp;omega
   simp [loadCellsFrom,this]
  | succ n ih=>
   intro i acc hi
   have hlt:i<us.length:=by omega
   have hc:=h i us[i] (List.getElem?_eq_getElem hlt)
   simp only [loadCellsFrom,Sem.run_bind,run_load,addr_add,hc,Result.andThen_ok]
   rw [ih (i+1) _ (by omega),List.drop_eq_getElem_cons hlt]
   simp
 have:=key us.length 0 #[] (by simp)
 simpa [loadCells] using this
def TypeDesc.agg:TypeDesc→Bool
 | .struct _ | .array _ _=>true
 | _=>false
theorem Info.Ok.run_isAgg {I:Info} {P:Program} (hI:I.Ok P) (w:World) {t:TypeId} {d:TypeDesc} (h:I.und t=some d): (isAgg t).run P w= .ok (TypeDesc.agg d) w:=by
 simp only [isAgg,Sem.run_bind,hI.run_und w h,Result.andThen_ok]
 cases d<;>rfl
theorem FzC.cell {c:Ctx} {ρ:Env} {H:AH} {w:World} (hr:Rel c ρ H w) {b o:Nat} {vs:List Value} (h:FzC ρ b o vs) (i:Nat) (v:Value) (hv:vs[i]? =some v): w.cell? ⟨b,o+i,none⟩=some v:=by
 obtain ⟨_,pre,rest,h0,h2⟩:=h
 obtain ⟨el,fr,h3⟩:=hr.fro _ _ h2
 have hi:=(List.getElem?_eq_some_iff.1 hv).1
 simp only [World.cell?,h3,Option.isSome_none,Bool.false_eq_true,if_false,List.getElem?_toArray]
 rw [List.append_assoc,List.getElem?_append_right (by omega),show o+i-pre.length=i by omega,List.getElem?_append_left hi,hv]
theorem VRs.flat {ρ:Env} {f:Nat→List AV} {vss:Nat→List Value}: ∀ {n:Nat},(∀ i,i<n→VRs ρ (f i) (vss i))→VRs ρ (rowsOf n f) ((List.range n).flatMap vss)
 | 0,_=>by simp [rowsOf,VRs]
 | n+1,h=>by
  rw [rowsOf_succ,List.range_succ,List.flatMap_append]
  exact VRs.append (VRs.flat fun i hi=>h i (by omega)) (by simpa using h n (by omega))
def aptr (H:AH): AV→Option (ABlk×Nat×Nat×Nat)
 | .ptr l k e j=>some (H.get l,k,e,j)
 | .fptr cs j=>some (.cells cs .ro,0,0,j)
 | _=>none
theorem aptr_ok {H:AH} {p:AV} {blk:ABlk} {k e j:Nat} (h:aptr H p=some (blk,k,e,j)) {c:Ctx} {ρ:Env} {w:World} {pv:Value} (hp:VR ρ p pv) (hr:Rel c ρ H w):
  ∃ b o,pv= .pointer (some ⟨b,o,none⟩)∧ ∀ n xs,blk.at k e j n=some (true,xs)→ ∃ us:List Value,VRs ρ xs us∧us.length=n∧ ∀ (i:Nat) v,us[i]? =some v→w.cell? ⟨b,o+i,none⟩=some v:=by
 unfold aptr at h
 split at h
 ·rename_i l _ _ _
  simp only [Option.some.injEq,Prod.mk.injEq] at h
  obtain ⟨rfl,rfl,rfl,rfl⟩:=h
  simp only [VR] at hp
  obtain ⟨b,N,hb,rfl⟩:=hp
  have hblk:=hr.blk l
  rw [hb] at hblk
  refine ⟨b,_,rfl,fun n xs hat=>?_⟩
  obtain ⟨us,h1,h2,_,h4⟩:=ABlk.at_ok hblk hat
  exact ⟨us,h1,h2,h4⟩
 ·rename_i cs j0
  simp only [Option.some.injEq,Prod.mk.injEq] at h
  obtain ⟨rfl,rfl,rfl,rfl⟩:=h
  simp only [VR] at hp
  obtain ⟨b,o,vs,rfl,h1,h2⟩:=hp
  refine ⟨b,_,rfl,fun n xs hat=>?_⟩
  simp only [ABlk.at,ABlk.un,ABlk.at0,Option.some.injEq,Prod.mk.injEq,decide_eq_true_eq,Nat.zero_mul,Nat.zero_add] at hat
  obtain ⟨hk,rfl⟩:=hat
  have hlen:=h2.length_eq
  refine ⟨(vs.drop j0).take n,((VRs.ext (Ext.of_bare ρ) _ _ h2).drop j0).take n,by simp;omega,fun i v hv=>?_⟩
  have hi:i<n:=by
   have:=(List.getElem?_eq_some_iff.1 hv).1
   simp at this;omega
  rw [List.getElem?_take_of_lt hi,List.getElem?_drop] at hv
  have:=FzC.cell hr h1 _ _ hv
  rw [←Nat.add_assoc] at this
  exact this
 ·cases h
def all64:List AV→Bool
 | []=>true
 | .int .i64 _::cs=>all64 cs
 | _=>false
def int64At:List AV→Nat→Int
 | [],_=>0
 | .int _ i::_,0=>i
 | _::_,0=>0
 | _::cs,n+1=>int64At cs n
theorem int64At_ok : ∀ (cs:List AV) (n:Nat),all64 cs=true→n<cs.length→(cs.drop n).take 1=[.int .i64 (int64At cs n)]
 | [],n,_,h=>absurd h (Nat.not_lt_zero _)
 | .int .i64 i::cs,0,_,_=>rfl
 | .int .i64 i::cs,n+1,h,hn=>int64At_ok cs n h (Nat.lt_of_succ_lt_succ hn)
def pick64 (b:ABlk) (e:Nat): Option (List AV):=match e with
 | 1=>match b with
  | .cells cs _=>bif Nat.beq cs.length 16&&all64 cs then some cs else none
  | _=>none
 | _=>none
theorem pick64_ok {b:ABlk} {k e j:Nat} {cs:List AV} (h:pick64 b e=some cs) (hn:k*e+j<cs.length): b.at k e j 1=some (true,[.int .i64 (int64At cs (k*e+j))]):=by
 unfold pick64 at h
 split at h
 ·split at h
  ·rename_i cs' a
   cases hb:(Nat.beq cs'.length 16&&all64 cs') with
   | false=>rw [hb] at h;cases h
   | true=>
    rw [hb] at h
    cases h
    rw [Bool.and_eq_true] at hb
    show some (decide (k*1+j+1≤cs.length),(cs.drop (k*1+j)).take 1)=_
    rw [int64At_ok cs _ hb.2 hn,decide_eq_true (show k*1+j+1≤cs.length from hn)]
  ·cases h
 ·cases h
def aload {R:Type} (X:RI R) (I:Info) (t:TypeId) (H:AH) (p:AV) (K:AV→R): R :=
 match aptr H p,I.und t with
 | some (blk,k,e,j),some d=>
  match TypeDesc.agg d with
  | true=>match I.size t with
   | some n=>match blk.at k e j n with
    | some (ok,xs)=>X.assert ok (K (.agg xs))
    | none=>X.fail
   | none=>X.fail
  | false=>match pick64 blk e with
   | some cs=>X.assert (decide (k*e+j<cs.length)) (K (.int .i64 (int64At cs (k*e+j))))
   | none=>match blk.at k e j 1 with
    | some (ok,[x])=>X.assert ok (K x)
    | _=>X.fail
 | _,_=>X.fail
theorem aload_ok {R:Type} {X:RI R} {sem:R→Prop} (hX:X.Ok sem) {I:Info} {P:Program} (hI:I.Ok P) {t:TypeId} {H:AH} {p:AV} {K:AV→R} (h:sem (aload X I t H p K)):
  ∃ a,sem (K a)∧ ∀ (c:Ctx) ρ w pv,VR ρ p pv→Rel c ρ H w→ ∃ v,(Instr.loadAt t pv).run P w= .ok v w∧VR ρ a v:=by
 unfold aload at h
 split at h
 ·rename_i blk k e j d hp0 hd
  split at h
  ·rename_i hagg
   split at h
   ·rename_i n hn
    split at h
    ·rename_i ok xs hat
     obtain ⟨hok,hK⟩:=hX.assert _ _ h
     subst hok
     refine ⟨_,hK,fun c ρ w pv hp hr=>?_⟩
     obtain ⟨b,o,rfl,hread⟩:=aptr_ok hp0 hp hr
     obtain ⟨us,h1,h2,h4⟩:=hread _ _ hat
     refine ⟨.agg us.toArray,?_,by simp only [VR];exact ⟨us,rfl,h1⟩⟩
     simp only [Instr.loadAt,Instr.sureAddr,loadVar,Sem.run_bind,Sem.run_pure,Result.andThen_ok,hI.run_isAgg w hd,hagg,if_true,hI.run_size w hn]
     rw [←h2,run_loadCells_us h4]
     simp
    ·exact absurd h hX.fail
   ·exact absurd h hX.fail
  ·rename_i hagg
   have key : ∃ x,sem (K x)∧blk.at k e j 1=some (true,[x]):=by
    split at h
    ·rename_i cs hp
     obtain ⟨h1,h2⟩:=hX.assert _ _ h
     exact ⟨_,h2,pick64_ok hp (of_decide_eq_true h1)⟩
    ·split at h
     ·rename_i ok x hat
      obtain ⟨hok,hK⟩:=hX.assert _ _ h
      subst hok
      exact ⟨x,hK,hat⟩
     ·exact absurd h hX.fail
   obtain ⟨x,hK,hat⟩:=key
   refine ⟨_,hK,fun c ρ w pv hp hr=>?_⟩
   obtain ⟨b,o,rfl,hread⟩:=aptr_ok hp0 hp hr
   obtain ⟨us,h1,h2,h4⟩:=hread _ _ hat
   match us,h2,h1,h4 with
   | [u],_,h1,h4=>
    have hc:=h4 0 u rfl
    refine ⟨u,?_,(VRs.cons_iff.1 h1).1⟩
    simp only [Nat.add_zero] at hc
    simp [Instr.loadAt,Instr.sureAddr,loadVar,hI.run_isAgg w hd,hagg,hc]
 ·exact absurd h hX.fail
end Go.Sx
end
section
namespace Go.Sx
open Go
structure Pres (w w':World): Prop where
 size:w.heap.size≤w'.heap.size
 same : ∀ k,k<w.heap.size→w'.heap[k]? =w.heap[k]?
theorem Pres.refl (w:World): Pres w w:=⟨Nat.le_refl _,fun _ _=>rfl⟩
theorem Pres.trans {a b c:World} (h:Pres a b) (k:Pres b c): Pres a c:=⟨Nat.le_trans h.size k.size,fun i hi=>(k.same i (Nat.lt_of_lt_of_le hi h.size)).trans (h.same i hi)⟩
theorem Pres.push (w:World) (o:Obj): Pres w {w with heap:=w.heap.push o}:=⟨by simp,fun _ hk=>heap_push_old hk⟩
def Gives (P:Program) (s:Sem Value) (c:Ctx) (ρ:Env) (w:World) (a:AV) (H':AH): Prop :=
 ∃ v' w' ρ',s.run P w= .ok v' w'∧Ext ρ ρ'∧Rel c ρ' H' w'∧VR ρ' a v'∧Pres w w'
section
variable {P:Program} {c:Ctx} {ρ:Env} {w:World} {H:AH}
theorem Gives.same {s:Sem Value} {v:Value} {a:AV} (hs:s.run P w= .ok v w) (hr:Rel c ρ H w) (ha:VR ρ a v): Gives P s c ρ w a H :=
 ⟨v,w,ρ,hs,Ext.refl ρ,hr,ha,Pres.refl w⟩
theorem Gives.row {s:Sem Value} {vs:List Value} {cs:List AV} {el:TypeId} {mk:Addr→Value} {a:AV} (hr:Rel c ρ H w) (hc:VRs ρ cs vs) (h1:cs.all AV.one=true)
  (hs:s.run P w= .ok (mk ⟨w.heap.size,0,none⟩) {w with heap:=w.heap.push (.cells vs.toArray el)})
  (ha : ∀ ρ':Env,ρ' H.n=some (w.heap.size,vs.length)→VR ρ' a (mk ⟨w.heap.size,0,none⟩)): Gives P s c ρ w a (H.new (.cells cs (.ty el))):=by
 obtain ⟨hx,hr'⟩:=hr.new (.cells vs.toArray el) vs.length (.cells cs (.ty el)) fun w' hw'=>by
  refine .inr ⟨_,_,vs,[],el,(0,0),rfl,?_,by simp,VRs.ext (Env.ext_put _ (hr.top _ (Nat.le_refl _))) _ _ hc,⟨fun _ i _ h=>by simp at h,fun e h=>by cases h;rfl⟩,VRs.ones hc h1,fun e=>by cases e⟩
  simpa using hw'
 exact ⟨_,_,_,hs,hx,hr',ha _ (Env.put_same _ _ _),Pres.push _ _⟩
end
def inR (k:IntKind) (n:Int): Bool:=decide (k.min≤n)&&decide (n≤k.max)
theorem wrap_inR {k:IntKind} {n:Int} (h:inR k n=true): k.wrap n=n:=by
 simp only [inR,Bool.and_eq_true,decide_eq_true_eq] at h
 obtain ⟨h1,h2⟩:=h
 unfold IntKind.wrap
 cases k<;>simp only [IntKind.min,IntKind.max,IntKind.signed,IntKind.bits,Bool.false_eq_true,if_true,if_false,Bool.true_and,Bool.false_and] at h1 h2⊢ <;>(try split)<;>simp at* <;>omega
def fits (wr:Bool) (k:IntKind) (n:Int): Bool×Int :=
 bif wr || !k.signed then (true,k.wrap n) else (inR k n,n)
theorem fits_ok {wr:Bool} {k:IntKind} {n m:Int} (h:fits wr k n=(true,m)): k.wrap n=m:=by
 unfold fits at h
 cases hc:(wr || !k.signed)<;>rw [hc] at h<;>simp only [cond_true,cond_false,Prod.mk.injEq,true_and] at h
 ·rw [wrap_inR h.1];exact h.2
 ·exact h
def bitsOf (op:BinOp) (k:IntKind) (x y:Int): Int :=
 k.wrap (match op with
  | .and=>BitVec.ofInt k.bits x &&& BitVec.ofInt k.bits y
  | .or=>BitVec.ofInt k.bits x ||| BitVec.ofInt k.bits y
  | .xor=>BitVec.ofInt k.bits x^^^BitVec.ofInt k.bits y
  | _=>BitVec.ofInt k.bits x &&& ~~~BitVec.ofInt k.bits y:BitVec k.bits).toNat
def intOp {R:Type} (X:RI R) (wr:Bool) (op:BinOp) (k:IntKind) (x y:Int) (K:AV→R): R :=
 match op with
 | .add=>X.assert (fits wr k (x+y)).1 (K (.int k (fits wr k (x+y)).2))
 | .sub=>X.assert (fits wr k (x-y)).1 (K (.int k (fits wr k (x-y)).2))
 | .mul=>X.assert (fits wr k (x*y)).1 (K (.int k (fits wr k (x*y)).2))
 | .quo=>X.assert (!(y==0)&&(fits wr k (x.tdiv y)).1) (K (.int k (fits wr k (x.tdiv y)).2))
 | .rem=>X.assert (!(y==0)) (K (.int k (x.tmod y)))
 | .and | .or | .xor | .andNot=>K (.int k (bitsOf op k x y))
 | .eql=>K (.bool (x==y))
 | .neq=>K (.bool (x !=y))
 | .lss=>K (.bool (decide (x<y)))
 | .leq=>K (.bool (decide (x≤y)))
 | .gtr=>K (.bool (decide (x>y)))
 | .geq=>K (.bool (decide (x≥y)))
 | _=>X.fail
theorem intOp_ok {R:Type} {X:RI R} {sem:R→Prop} (hX:X.Ok sem) (P:Program) {wr:Bool} {op:BinOp} {k:IntKind} {x y:Int} {K:AV→R} (h:sem (intOp X wr op k x y K)) (t:TypeId):
  ∃ v a,sem (K a)∧(∀ ρ,VR ρ a v)∧ ∀ w,(binOp op t (.int k x) (.int k y)).run P w= .ok v w:=by
 unfold intOp at h
 split at h
 case h_1=>
  obtain ⟨h1,h2⟩:=hX.assert _ _ h
  have:=fits_ok (wr:=wr) (k:=k) (n:=x+y) (m:=(fits wr k (x+y)).2) (by rw [←h1])
  exact ⟨_,_,h2,fun ρ=>by simp only [VR];rfl,fun w=>by simp [binOp,Op.intArith,this]⟩
 case h_2=>
  obtain ⟨h1,h2⟩:=hX.assert _ _ h
  have:=fits_ok (wr:=wr) (k:=k) (n:=x-y) (m:=(fits wr k (x-y)).2) (by rw [←h1])
  exact ⟨_,_,h2,fun ρ=>by simp only [VR];rfl,fun w=>by simp [binOp,Op.intArith,this]⟩
 case h_3=>
  obtain ⟨h1,h2⟩:=hX.assert _ _ h
  have:=fits_ok (wr:=wr) (k:=k) (n:=x*y) (m:=(fits wr k (x*y)).2) (by rw [←h1])
  exact ⟨_,_,h2,fun ρ=>by simp only [VR];rfl,fun w=>by simp [binOp,Op.intArith,this]⟩
 case h_4=>
  obtain ⟨h1,h2⟩:=hX.assert _ _ h
  simp only [Bool.and_eq_true,Bool.not_eq_true',beq_eq_false_iff_ne,ne_eq] at h1
  have:=fits_ok (wr:=wr) (k:=k) (n:=x.tdiv y) (m:=(fits wr k (x.tdiv y)).2) (by rw [←h1.2])
  exact ⟨_,_,h2,fun ρ=>by simp only [VR];rfl,fun w=>by simp [binOp,Op.intDiv,this,h1.1]⟩
 case h_5=>
  obtain ⟨h1,h2⟩:=hX.assert _ _ h
  simp only [Bool.not_eq_true',beq_eq_false_iff_ne,ne_eq] at h1
  exact ⟨_,_,h2,fun ρ=>by simp only [VR];rfl,fun w=>by simp [binOp,Op.intDiv,h1]⟩
 case h_6=>exact ⟨_,_,h,fun ρ=>by simp only [VR];rfl,fun w=>by simp [binOp,Op.intBits,bitsOf]⟩
 case h_7=>exact ⟨_,_,h,fun ρ=>by simp only [VR];rfl,fun w=>by simp [binOp,Op.intBits,bitsOf]⟩
 case h_8=>exact ⟨_,_,h,fun ρ=>by simp only [VR];rfl,fun w=>by simp [binOp,Op.intBits,bitsOf]⟩
 case h_9=>exact ⟨_,_,h,fun ρ=>by simp only [VR];rfl,fun w=>by simp [binOp,Op.intBits,bitsOf]⟩
 case h_10=>exact ⟨_,_,h,fun ρ=>by simp only [VR];rfl,fun w=>by simp [binOp,Op.intCmp]⟩
 case h_11=>exact ⟨_,_,h,fun ρ=>by simp only [VR];rfl,fun w=>by simp [binOp,Op.intCmp]⟩
 case h_12=>exact ⟨_,_,h,fun ρ=>by simp only [VR];rfl,fun w=>by simp [binOp,Op.intCmp]⟩
 case h_13=>exact ⟨_,_,h,fun ρ=>by simp only [VR];rfl,fun w=>by simp [binOp,Op.intCmp]⟩
 case h_14=>exact ⟨_,_,h,fun ρ=>by simp only [VR];rfl,fun w=>by simp [binOp,Op.intCmp]⟩
 case h_15=>exact ⟨_,_,h,fun ρ=>by simp only [VR];rfl,fun w=>by simp [binOp,Op.intCmp]⟩
 case h_16=>exact absurd h hX.fail
def shiftOp {R:Type} (X:RI R) (wr:Bool) (op:BinOp) (k:IntKind) (x y:Int) (K:AV→R): R :=
 match op with
 | .shl=>X.assert (decide (0≤y)&&(fits wr k (x*2^(min y.toNat k.bits))).1) (K (.int k (fits wr k (x*2^(min y.toNat k.bits))).2))
 | .shr=>X.assert (decide (0≤y)) (K (.int k (x.fdiv (2^(min y.toNat k.bits)))))
 | _=>X.fail
theorem shiftOp_ok {R:Type} {X:RI R} {sem:R→Prop} (hX:X.Ok sem) (P:Program) {wr:Bool} {op:BinOp} {k yk:IntKind} {x y:Int} {K:AV→R} (h:sem (shiftOp X wr op k x y K)) (t:TypeId):
  ∃ v a,sem (K a)∧(∀ ρ,VR ρ a v)∧ ∀ w,(binOp op t (.int k x) (.int yk y)).run P w= .ok v w:=by
 unfold shiftOp at h
 split at h
 ·obtain ⟨h1,h2⟩:=hX.assert _ _ h
  simp only [Bool.and_eq_true,decide_eq_true_eq] at h1
  have:=fits_ok (wr:=wr) (k:=k) (n:=x*2^(min y.toNat k.bits)) (m:=(fits wr k (x*2^(min y.toNat k.bits))).2) (by rw [←h1.2])
  exact ⟨_,_,h2,fun ρ=>by simp only [VR];rfl,fun w=>by simp [binOp,Op.shift,this,show ¬ y<0 by omega]⟩
 ·obtain ⟨h1,h2⟩:=hX.assert _ _ h
  simp only [decide_eq_true_eq] at h1
  exact ⟨_,_,h2,fun ρ=>by simp only [VR];rfl,fun w=>by simp [binOp,Op.shift,show ¬ y<0 by omega]⟩
 ·exact absurd h hX.fail
def sapp (a b:List UInt8): List UInt8:=a++b
def strOp {R:Type} (X:RI R) (op:BinOp) (x y:List UInt8) (K:AV→R): R :=
 match op with
 | .add=>X.assert (decide (x.length+y.length≤9223372036854775807)) (K (.str (sapp x y)))
 | .eql=>K (.bool (x==y))
 | .neq=>K (.bool (!(x==y)))
 | .lss=>K (.bool (Op.bytesLess x y))
 | .leq=>K (.bool (Op.bytesLess x y||x==y))
 | .gtr=>K (.bool (!(Op.bytesLess x y||x==y)))
 | .geq=>K (.bool (!Op.bytesLess x y))
 | _=>X.fail
theorem strOp_ok {R:Type} {X:RI R} {sem:R→Prop} (hX:X.Ok sem) (P:Program) {op:BinOp} {x y:List UInt8} {K:AV→R} (h:sem (strOp X op x y K)) (t:TypeId):
  ∃ v a,sem (K a)∧(∀ ρ,VR ρ a v)∧ ∀ w,(binOp op t (.string ⟨x.toArray⟩) (.string ⟨y.toArray⟩)).run P w= .ok v w:=by
 unfold strOp at h
 split at h
 ·obtain ⟨h1,h2⟩:=hX.assert _ _ h
  simp only [decide_eq_true_eq] at h1
  refine ⟨_,_,h2,fun ρ=>by simp only [VR];rfl,fun w=>?_⟩
  have e:((⟨x.toArray⟩: ByteArray)++⟨y.toArray⟩)=⟨(sapp x y).toArray⟩:=by
   apply ByteArray.ext
   simp [sapp]
  have hs : ¬ ((((⟨x.toArray⟩: ByteArray).size+(⟨y.toArray⟩: ByteArray).size:Nat): Int)>IntKind.i64.max):=by
   simp only [ByteArray.size,List.size_toArray,IntKind.max,IntKind.signed,IntKind.bits,if_true]
   omega
  simp only [binOp,Op.stringOp,hs,if_false,e,Sem.run_pure]
 all_goals first
  | exact absurd h hX.fail
  | exact ⟨_,_,h,fun ρ=>by simp only [VR];rfl,fun w=>by simp [binOp,Op.stringOp]⟩
end Go.Sx
end
