/- CertifyOpens is proved, part 2. -/
import Derived.ChangeKeysEq
import Derived.LaidEqlPtr
import Derived.Test.YtleifmkjbmhlpaaGreatDoorX01
set_option linter.unusedVariables false
set_option linter.unusedSimpArgs false
set_option linter.unusedSectionVars false
section
namespace Go.Sx
open Go
def apart (I:Info) (t:TypeId) (cs:List AV) (off:Nat): Option AV :=
 match I.und t with
 | some d=>match TypeDesc.agg d with
  | true=>match I.size t with
   | some n=>if off+n≤cs.length then some (.agg ((cs.drop off).take n)) else none
   | none=>none
  | false=>cs[off]?
 | none=>none
theorem apart_ok {I:Info} {P:Program} (hI:I.Ok P) {t:TypeId} {cs:List AV} {off:Nat} {a:AV} (h:apart I t cs off=some a) {ρ:Env} {vs:List Value} (hv:VRs ρ cs vs) (w:World):
  ∃ v,(part t vs.toArray off).run P w= .ok v w∧VR ρ a v:=by
 unfold apart at h
 split at h
 ·rename_i d hd
  split at h
  ·rename_i hagg
   split at h
   ·rename_i n hn
    split at h
    ·rename_i hl
     cases h
     have hlen:=hv.length_eq
     refine ⟨.agg ((vs.drop off).take n).toArray,?_,by simp only [VR];exact ⟨_,rfl,(hv.drop off).take n⟩⟩
     simp only [part,Sem.run_bind,hI.run_isAgg w hd,hagg,Result.andThen_ok,if_true,hI.run_size w hn,Sem.run_pure]
     congr 2
     apply Array.ext'
     simp [List.extract_eq_take_drop]
    ·cases h
   ·cases h
  ·rename_i hagg
   obtain ⟨v,h1,h2⟩:=hv.get off h
   exact ⟨v,by simp [part,hI.run_isAgg w hd,hagg,h1],h2⟩
 ·cases h
def aeqF (eq:TypeId→AV→AV→Option Bool) (I:Info) (xs ys:List AV): List (TypeId×Nat)→Option Bool
 | []=>some true
 | (t,o)::fs=>(apart I t xs o).bind fun a=>(apart I t ys o).bind fun b=>(eq t a b).bind fun r=>(aeqF eq I xs ys fs).map fun s=>r&&s
def aeqI (eq:AV→AV→Option Bool) (I:Info) (e:TypeId) (n:Nat) (xs ys:List AV): List Nat→Option Bool
 | []=>some true
 | i::is=>(apart I e xs (i*n)).bind fun a=>(apart I e ys (i*n)).bind fun b=>(eq a b).bind fun r=>(aeqI eq I e n xs ys is).map fun s=>r&&s
def aeq (I:Info): Nat→TypeId→AV→AV→Option Bool
 | 0,_,_,_=>none
 | d+1,t,x,y=>
  match I.und t,x,y with
  | some .bool,.bool a,.bool b=>some (a==b)
  | some (.int _),.int k a,.int k' b=>if k=k' then some (a==b) else none
  | some .string,.str a,.str b=>some (a==b)
  | some (.pointer _),.nilPtr,.nilPtr=>some true
  | some (.pointer _),.ptr _ _ _ _,.nilPtr=>some false
  | some (.pointer s),.ptr l k e j,.ptr l' k' e' j'=>if l=l'∧k*e+j=k'*e'+j' then (I.size s).bind fun _=>some true else none
  | some (.pointer _),.nilPtr,.ptr _ _ _ _=>some false
  | some (.pointer _),.fptr _ _,.nilPtr=>some false
  | some (.pointer _),.nilPtr,.fptr _ _=>some false
  | some (.interface _),.nilIface,.nilIface=>some true
  | some (.interface _),.nilIface,.iface _ _=>some false
  | some (.interface _),.iface _ _,.nilIface=>some false
  | some (.slice _),.nilSlice,.nilSlice=>some true
  | some (.slice _),.slice _ _ _ _ _ _,.nilSlice=>some false
  | some (.slice _),.nilSlice,.slice _ _ _ _ _ _=>some false
  | some (.struct _),.agg xs,.agg ys=>
   match I.held t,I.fields t with
   | true,some fs=>aeqF (aeq I d) I xs ys fs
   | _,_=>none
  | some (.array n e),.agg xs,.agg ys=>
   match I.size e with
   | some m=>aeqI (aeq I d e) I e m xs ys (List.range n)
   | none=>none
  | _,_,_=>none
theorem aeqF_ok {I:Info} {P:Program} (hI:I.Ok P) {d:Nat} {eq:TypeId→AV→AV→Option Bool}
  (heq : ∀ t x y r,eq t x y=some r→ ∀ ρ u v w,VR ρ x u→VR ρ y v→(Op.equalIn d t u v).run P w= .ok r w) {xs ys:List AV} {ρ:Env} {us vs:List Value} (hu:VRs ρ xs us) (hv:VRs ρ ys vs) (w:World):
  ∀ (fs:List Field) (r:Bool),(∀ f∈fs,f.name≠ "_")→aeqF eq I xs ys (fs.map fun f=>(f.type,f.offset))=some r→(Op.eqFields d us.toArray vs.toArray fs).run P w= .ok r w
 | [],r,_,h=>by simp only [List.map_nil,aeqF,Option.some.injEq] at h;subst h;simp [Op.eqFields]
 | f::fs,r,hn,h=>by
  simp only [List.map_cons,aeqF,Option.bind_eq_some_iff,Option.map_eq_some_iff] at h
  obtain ⟨a,h1,b,h2,p,h3,q,h4,rfl⟩:=h
  obtain ⟨u,e1,r1⟩:=apart_ok hI h1 hu w
  obtain ⟨v,e2,r2⟩:=apart_ok hI h2 hv w
  have ih:=aeqF_ok hI heq hu hv w fs q (fun g hg=>hn g (List.mem_cons_of_mem _ hg)) h4
  have e3:=heq _ _ _ _ h3 ρ u v w r1 r2
  have hnf:f.name≠ "_" :=hn f List.mem_cons_self
  cases p<;>simp [Op.eqFields,hnf,e1,e2,e3,ih]
theorem aeqI_ok {I:Info} {P:Program} (hI:I.Ok P) {d:Nat} {e:TypeId} {n:Nat} {eq:AV→AV→Option Bool}
  (heq : ∀ x y r,eq x y=some r→ ∀ ρ u v w,VR ρ x u→VR ρ y v→(Op.equalIn d e u v).run P w= .ok r w) {xs ys:List AV} {ρ:Env} {us vs:List Value} (hu:VRs ρ xs us) (hv:VRs ρ ys vs) (w:World):
  ∀ (is:List Nat) (r:Bool),aeqI eq I e n xs ys is=some r→(Op.eqItems d e n us.toArray vs.toArray is).run P w= .ok r w
 | [],r,h=>by simp only [aeqI,Option.some.injEq] at h;subst h;simp [Op.eqItems]
 | i::is,r,h=>by
  simp only [aeqI,Option.bind_eq_some_iff,Option.map_eq_some_iff] at h
  obtain ⟨a,h1,b,h2,p,h3,q,h4,rfl⟩:=h
  obtain ⟨u,e1,r1⟩:=apart_ok hI h1 hu w
  obtain ⟨v,e2,r2⟩:=apart_ok hI h2 hv w
  have ih:=aeqI_ok hI heq hu hv w is q h4
  have e3:=heq _ _ _ h3 ρ u v w r1 r2
  cases p<;>simp [Op.eqItems,e1,e2,e3,ih]
theorem aeq_ok {I:Info} {P:Program} (hI:I.Ok P): ∀ (d:Nat) (t:TypeId) (x y:AV) (r:Bool),aeq I d t x y=some r→ ∀ ρ u v w,VR ρ x u→VR ρ y v→(Op.equalIn d t u v).run P w= .ok r w
 | 0,_,_,_,_,h=>by simp [aeq] at h
 | d+1,t,x,y,r,h=>by
  intro ρ u v w hx hy
  unfold aeq at h
  split at h
  case h_1 hd=>cases h;simp only [VR] at hx hy;subst hx hy;simp [Op.equalIn,hI.run_und w hd]
  case h_2 hd=>
   split at h
   ·rename_i hk;cases h;simp only [VR] at hx hy;subst hx hy;simp [Op.equalIn,hI.run_und w hd,hk]
   ·cases h
  case h_3 hd=>cases h;simp only [VR] at hx hy;subst hx hy;simp [Op.equalIn,hI.run_und w hd,beq_toListBytes]
  case h_4 hd=>cases h;simp only [VR] at hx hy;subst hx hy;simp [Op.equalIn,hI.run_und w hd]
  case h_5 hd=>cases h;simp only [VR] at hx hy;obtain ⟨_,_,_,rfl⟩:=hx;subst hy;simp [Op.equalIn,hI.run_und w hd]
  case h_6 s l k e j l' k' e' j' hd=>
   split at h
   ·rename_i hc
    obtain ⟨rfl,hj⟩:=hc
    simp only [Option.bind_eq_some_iff,Option.some.injEq] at h
    obtain ⟨n,hn,rfl⟩:=h
    obtain ⟨i,i1,_⟩:=hI.size _ _ hn
    simp only [VR] at hx hy
    obtain ⟨b,N,hb,rfl⟩:=hx
    obtain ⟨b',N',hb',rfl⟩:=hy
    rw [hb] at hb'
    cases hb'
    rw [hj]
    simp [Op.equalIn,hI.run_und w hd,sizeOf,typeInfo,i1,run_sameAddr_same]
   ·cases h
  case h_7 hd=>cases h;simp only [VR] at hx hy;obtain ⟨_,_,_,rfl⟩:=hy;subst hx;simp [Op.equalIn,hI.run_und w hd]
  case h_8 hd=>cases h;simp only [VR] at hx hy;obtain ⟨_,_,_,rfl,_⟩:=hx;subst hy;simp [Op.equalIn,hI.run_und w hd]
  case h_9 hd=>cases h;simp only [VR] at hx hy;obtain ⟨_,_,_,rfl,_⟩:=hy;subst hx;simp [Op.equalIn,hI.run_und w hd]
  case h_10 hd=>cases h;simp only [VR] at hx hy;subst hx hy;simp [Op.equalIn,hI.run_und w hd]
  case h_11 hd=>cases h;simp only [VR] at hx hy;obtain ⟨_,rfl,_⟩:=hy;subst hx;simp [Op.equalIn,hI.run_und w hd]
  case h_12 hd=>cases h;simp only [VR] at hx hy;obtain ⟨_,rfl,_⟩:=hx;subst hy;simp [Op.equalIn,hI.run_und w hd]
  case h_13 hd=>cases h;simp only [VR] at hx hy;subst hx hy;simp [Op.equalIn,hI.run_und w hd]
  case h_14 hd=>cases h;simp only [VR] at hx hy;obtain ⟨_,_,_,_,_,rfl,_⟩:=hx;subst hy;simp [Op.equalIn,hI.run_und w hd]
  case h_15 hd=>cases h;simp only [VR] at hx hy;obtain ⟨_,_,_,_,_,rfl,_⟩:=hy;subst hx;simp [Op.equalIn,hI.run_und w hd]
  case h_16 xs ys hd=>
   simp only [VR] at hx hy
   obtain ⟨us,rfl,hus⟩:=hx
   obtain ⟨vs,rfl,hvs⟩:=hy
   split at h
   ·rename_i fs hh hf
    obtain ⟨fa,e1,rfl,e3⟩:=hI.fields t fs hf
    have ht:P.underlying t=some (.struct (P.fieldsOf t)):=by simp [Program.fieldsOf,e1]
    rw [run_equalIn_struct w d t _ _ ht (hI.held t hh)]
    have:P.fieldsOf t=fa:=by simp [Program.fieldsOf,e1]
    rw [this]
    exact aeqF_ok hI (fun t' x' y' r' h'=>aeq_ok hI d t' x' y' r' h') hus hvs w fa.toList r e3 h
   ·cases h
  case h_17 n e xs ys hd=>
   simp only [VR] at hx hy
   obtain ⟨us,rfl,hus⟩:=hx
   obtain ⟨vs,rfl,hvs⟩:=hy
   split at h
   ·rename_i m hm
    obtain ⟨i,e1,e2⟩:=hI.size e m hm
    rw [run_equalIn_array w d _ _ (hI.und t _ hd) e1]
    have:P.cellsOf e=m:=by simp [Program.cellsOf,e1,e2]
    rw [this]
    exact aeqI_ok hI (fun x' y' r' h'=>aeq_ok hI d e x' y' r' h') hus hvs w _ r h
   ·cases h
  case h_18=>cases h
end Go.Sx
end
