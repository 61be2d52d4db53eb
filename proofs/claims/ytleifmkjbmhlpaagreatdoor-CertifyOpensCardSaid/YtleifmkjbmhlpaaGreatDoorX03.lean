/- CertifyOpens is proved, part 3. -/
import Derived.Laws.Build
import Derived.Test.YtleifmkjbmhlpaaGreatDoorX02
set_option linter.unusedVariables false
set_option linter.unusedSimpArgs false
set_option linter.unusedSectionVars false
section
namespace Go.Sx
open Go
def afill (place:Nat→Option (Nat×Nat)) (cs:List AV): List (Nat×AV)→Option (List AV)
 | []=>some cs
 | (i,a)::rest=>
  match place i,a.cells? with
  | some (off,size),some xs=>if xs.length=size∧off+size≤cs.length then afill place (cs.take off++xs++cs.drop (off+size)) rest else none
  | _,_=>none
theorem afill_ones {place:Nat→Option (Nat×Nat)}: ∀ {ps:List (Nat×AV)} {xs ys:List AV},afill place xs ps=some ys→xs.all AV.one=true→ys.all AV.one=true
 | [],xs,ys,h,h1=>by simp only [afill,Option.some.injEq] at h;rw [←h];exact h1
 | (i,a)::ps,xs,ys,h,h1=>by
  simp only [afill] at h
  split at h
  ·rename_i off size zs hp hz
   split at h
   ·refine afill_ones h ?_
    have h2:=AV.cells_ones hz
    simp only [List.all_append,Bool.and_eq_true,List.all_eq_true] at h1 h2⊢
    exact ⟨⟨fun x hx=>h1 x (List.mem_of_mem_take hx),h2⟩,fun x hx=>h1 x (List.mem_of_mem_drop hx)⟩
   ·cases h
  ·cases h
theorem foldl_set {us:List Value}: ∀ (vs:List Value) (off:Nat),off+vs.length≤us.length→
  ((vs.toArray.zipIdx.foldl (fun cs (x:Value×Nat)=>cs.setIfInBounds (off+x.2) x.1) us.toArray))=(us.take off++vs++us.drop (off+vs.length)).toArray:=by
 intro vs off h
 have key : ∀ (vs:List Value) (us:List Value) (k:Nat),off+k+vs.length≤us.length→
   ((vs.zipIdx k).foldl (fun (cs:Array Value) (x:Value×Nat)=>cs.setIfInBounds (off+x.2) x.1) us.toArray)=(us.take (off+k)++vs++us.drop (off+k+vs.length)).toArray:=by
  intro vs
  induction vs with
  | nil=>intro us k _;simp
  | cons v vs ih=>
   intro us k hk
   simp only [List.length_cons] at hk
   simp only [List.zipIdx_cons,List.foldl_cons,List.setIfInBounds_toArray]
   rw [ih (us.set (off+k) v) (k+1) (by simp;omega)]
   congr 1
   have hlt:off+k<us.length:=by omega
   rw [List.take_set,List.drop_set_of_lt (by omega)]
   have:off+(k+1)=off+k+1:=by omega
   rw [this,List.take_succ_eq_append_getElem hlt]
   rw [List.set_append_right _ _ (by simp;omega)]
   simp [List.length_take,Nat.min_eq_left (Nat.le_of_lt hlt)]
   congr 1
   omega
 have:=key vs us 0 (by simpa using h)
 simp only [Nat.add_zero] at this
 rw [←this]
 simp
def PR (ρ:Env): List (Nat×AV)→List (Nat×Value)→Prop
 | [],qs=>qs=[]
 | p::ps,qs=> ∃ v rest,qs=(p.1,v)::rest∧VR ρ p.2 v∧PR ρ ps rest
theorem PR.of_map {ρ:Env} {ev:Operand→AV} {e:Operand→Value} (h : ∀ x,VR ρ (ev x) (e x)): ∀ ps:List (Nat×Operand),PR ρ (ps.map fun p=>(p.1,ev p.2)) (ps.map fun p=>(p.1,e p.2))
 | []=>by simp [PR]
 | p::ps=>⟨_,_,rfl,h _,PR.of_map h ps⟩
theorem afill_ok {ρ:Env} {place:Nat→Option (Nat×Nat)}: ∀ {ps:List (Nat×AV)} {qs:List (Nat×Value)} {cs cs':List AV} {vs:List Value},afill place cs ps=some cs'→
  PR ρ ps qs→VRs ρ cs vs→ ∃ vs',Instr.fill place vs.toArray qs=some vs'.toArray∧VRs ρ cs' vs'
 | [],qs,cs,cs',vs,h,hq,hv=>by
  simp only [PR] at hq
  subst hq
  simp only [afill,Option.some.injEq] at h
  subst h
  exact ⟨vs,rfl,hv⟩
 | (i,a)::ps,qs,cs,cs',vs,h,hq,hv=>by
   obtain ⟨v,qs,rfl,hva,hq⟩:=hq
   simp only [afill] at h
   split at h
   ·rename_i off size xs hp hc
    split at h
    ·rename_i hl
     have hxs:=VR.cells hva hc
     have hlen:=hxs.length_eq
     have hlen2:=hv.length_eq
     have hvs:v.cells.size=size:=by rw [←Array.length_toList,←hlen];exact hl.1
     have hset:=foldl_set (us:=vs) v.cells.toList off (by omega)
     rw [Array.toArray_toList,show off+v.cells.toList.length=off+size by rw [Array.length_toList,hvs]] at hset
     obtain ⟨vs',e1,e2⟩:=afill_ok (vs:=vs.take off++v.cells.toList++vs.drop (off+size)) h hq (((hv.take off).append hxs).append (hv.drop _))
     refine ⟨vs',?_,e2⟩
     simp only [Instr.fill,hp,hvs]
     rw [if_neg (by simp;omega),←e1,←hset]
    ·cases h
   ·cases h
end Go.Sx
end
section
namespace Go.Sx
open Go
theorem VRs.of_get {ρ:Env}: ∀ {as:List AV} {vs:List Value},as.length=vs.length→(∀ (i:Nat) a v,as[i]? =some a→vs[i]? =some v→VR ρ a v)→VRs ρ as vs
 | [],vs,h,_=>by simp at h;simp [VRs,List.length_eq_zero_iff.1 h.symm]
 | a::as,[],h,_=>by simp at h
 | a::as,v::vs,h,k=>VRs.cons_iff.2 ⟨k 0 a v rfl rfl,VRs.of_get (by simpa using h) fun i a' v' h1 h2=>k (i+1) a' v' (by simpa using h1) (by simpa using h2)⟩
section
variable {R:Type} {X:RI R} {sem:R→Prop} (hX:X.Ok sem) {I:Info} {P:Program} (hI:I.Ok P) {H:AH}
def placesOf (I:Info): List (TypeId×Nat)→Option (List (Nat×Nat))
 | []=>some []
 | (t,o)::r=>match I.size t,placesOf I r with
  | some n,some l=>some ((o,n)::l)
  | _,_=>none
theorem run_mapM {α β:Type} (P:Program) (w:World) (f:α→Sem β) (g:α→β): ∀ l:List α,(∀ x∈l,(f x).run P w= .ok (g x) w)→(l.mapM f).run P w= .ok (l.map g) w
 | [],_=>by simp
 | x::l,h=>by
  have ih:=run_mapM P w f g l (fun y hy=>h y (List.mem_cons_of_mem _ hy))
  simp [List.mapM_cons,h x List.mem_cons_self,ih]
theorem placesOf_get {I:Info}: ∀ {fs:List Field} {pl:List (Nat×Nat)},placesOf I (fs.map fun f=>(f.type,f.offset))=some pl→ ∀ f∈fs,∃ n,I.size f.type=some n
 | [],_,_,f,hf=>by cases hf
 | g::fs,pl,h,f,hf=>by
  simp only [List.map_cons,placesOf] at h
  split at h
  ·rename_i n l hn hl
   rcases List.mem_cons.1 hf with rfl | hf
   ·exact ⟨n,hn⟩
   ·exact placesOf_get hl f hf
  ·cases h
theorem placesOf_eq {I:Info}: ∀ {fs:List Field} {pl:List (Nat×Nat)},placesOf I (fs.map fun f=>(f.type,f.offset))=some pl→fs.map (fun f=>(f.offset,(I.size f.type).getD 0))=pl
 | [],pl,h=>by simp only [List.map_nil,placesOf,Option.some.injEq] at h;subst h;rfl
 | g::fs,pl,h=>by
  simp only [List.map_cons,placesOf] at h
  split at h
  ·rename_i n l hn hl
   cases h
   simp [hn,placesOf_eq hl]
  ·cases h
def abuild (I:Info) (t:TypeId) (parts:List (Nat×AV)): Option AV :=
 match I.zero t,I.und t with
 | some (.agg zs),some (.struct _)=>(I.fields t).bind fun l=>(placesOf I l).bind fun pl=>(afill (pl[·]?) zs parts).map .agg
 | some (.agg zs),some (.array _ e)=>(I.size e).bind fun m=>(afill (fun i=>some (i*m,m)) zs parts).map .agg
 | _,_=>none
include hI in
theorem abuild_ok {t:TypeId} {parts:List (Nat×AV)} {a:AV} (h:abuild I t parts=some a) {ρ:Env} {qs:List (Nat×Value)} (hq:PR ρ parts qs) (w:World):
  ∃ v,(Instr.build t qs.toArray).run P w= .ok v w∧VR ρ a v:=by
 unfold abuild at h
 split at h
 ·rename_i zs fs hz hd
  simp only [Option.bind_eq_some_iff,Option.map_eq_some_iff] at h
  obtain ⟨l,h1,pl,h2,cs,h3,rfl⟩:=h
  obtain ⟨z,e1,e2⟩:=hI.run_zero w hz
  have e2':=e2 ρ
  simp only [VR] at e2'
  obtain ⟨us,rfl,e3⟩:=e2'
  obtain ⟨fa,e4,rfl,_⟩:=hI.fields t l h1
  have e5:fs=fa:=by have:=hI.und t _ hd;rw [e4] at this;cases this;rfl
  subst e5
  obtain ⟨vs,e6,e7⟩:=afill_ok h3 hq e3
  refine ⟨.agg vs.toArray,?_,by simp only [VR];exact ⟨vs,rfl,e7⟩⟩
  have hm:(fs.mapM (fun f=>do pure (f.offset,←sizeOf f.type): Field→Sem (Nat×Nat))).run P w= .ok pl.toArray w:=by
   rw [Array.mapM_eq_mapM_toList]
   have:=run_mapM P w (fun f=>do pure (f.offset,←sizeOf f.type): Field→Sem (Nat×Nat)) (fun f=>(f.offset,(I.size f.type).getD 0)) fs.toList (fun f hf=>by
    obtain ⟨n,hn⟩:=placesOf_get h2 f hf
    simp [hI.run_size w hn,hn])
   rw [Sem.run_map,this,placesOf_eq h2]
   rfl
  simp only [Instr.build,Sem.run_bind,e1,Result.andThen_ok,hI.run_und w hd,hm,Value.cells]
  simp [e6]
 ·rename_i zs n e hz hd
  simp only [Option.bind_eq_some_iff,Option.map_eq_some_iff] at h
  obtain ⟨m,h1,cs,h3,rfl⟩:=h
  obtain ⟨z,e1,e2⟩:=hI.run_zero w hz
  have e2':=e2 ρ
  simp only [VR] at e2'
  obtain ⟨us,rfl,e3⟩:=e2'
  obtain ⟨vs,e6,e7⟩:=afill_ok h3 hq e3
  refine ⟨.agg vs.toArray,?_,by simp only [VR];exact ⟨vs,rfl,e7⟩⟩
  simp [Instr.build,e1,hI.run_und w hd,hI.run_size w h1,Value.cells,e6]
 ·cases h
def abuildSlice (X:RI R) (I:Info) (t:TypeId) (len:Nat) (parts:List (Nat×AV)) (H:AH) (K:AV→AH→R): R :=
 match I.und t with
 | some (.slice e)=>
  match I.size e,(I.zero e).bind AV.cells? with
  | some m,some zs=>
   if len*m≤2^24∧0<m∧zs.length=m then
    match afill (fun i=>some (i*m,m)) ((List.range (len*m)).map fun i=>zs.getD (i%m) .any) parts with
    | some cs=>K (.slice H.n 0 0 len (some len) m) (H.new (.cells cs (.ty e)))
    | none=>X.fail
   else X.fail
  | _,_=>X.fail
 | _=>X.fail
include hX hI in
theorem abuildSlice_ok {t:TypeId} {len:Nat} {parts:List (Nat×AV)} {K:AV→AH→R} (h:sem (abuildSlice X I t len parts H K)):
  ∃ a H',sem (K a H')∧ ∀ c ρ w qs,PR ρ parts qs→Rel c ρ H w→Gives P (Instr.buildSlice t len qs.toArray) c ρ w a H':=by
 unfold abuildSlice at h
 split at h
 ·rename_i e hd
  split at h
  ·rename_i m zs hm hz
   split at h
   ·rename_i hc
    obtain ⟨hc1,hc2,hc3⟩:=hc
    split at h
    ·rename_i cs hf
     refine ⟨_,_,h,fun c ρ w qs hq hr=>?_⟩
     simp only [Option.bind_eq_some_iff] at hz
     obtain ⟨za,hz1,hz2⟩:=hz
     obtain ⟨z,e1,e2⟩:=hI.run_zero w hz1
     have e3:=VR.cells (e2 ρ) hz2
     have e4:=e3.length_eq
     have hzs:z.cells.size=m:=by rw [←Array.length_toList,←e4,hc3]
     have base:VRs ρ ((List.range (len*m)).map fun i=>zs.getD (i%m) .any) ((List.range (len*m)).map fun i=>z.cells[i%z.cells.size]!):=by
      refine VRs.of_get (by simp) fun i a v h1 h2=>?_
      simp only [List.getElem?_map,Option.map_eq_some_iff] at h1 h2
      obtain ⟨x,hx,rfl⟩:=h1
      obtain ⟨y,hy,rfl⟩:=h2
      have hxy:x=y:=by rw [hx] at hy;cases hy;rfl
      subst hxy
      have hlt:x%m<zs.length:=by rw [hc3];exact Nat.mod_lt _ hc2
      have hg:zs[x%m]? =some (zs.getD (x%m) .any):=by rw [List.getD_eq_getElem?_getD,List.getElem?_eq_getElem hlt];rfl
      obtain ⟨u,hu1,hu2⟩:=e3.get (x%m) hg
      have:z.cells[x%z.cells.size]! =u:=by
       rw [hzs]
       have h3:z.cells[x%m]? =some u:=by rw [←Array.getElem?_toList];exact hu1
       rw [getElem!_def,h3]
      rw [this]
      exact hu2
     obtain ⟨vs,e6,e7⟩:=afill_ok hf hq base
     have hbase:((Array.range (len*m)).map fun x=>z.cells[x%z.cells.size]!)=((List.range (len*m)).map fun i=>z.cells[i%z.cells.size]!).toArray:=by
      apply Array.ext';simp
     have hones:cs.all AV.one=true:=by
      refine afill_ones hf ?_
      rw [List.all_eq_true]
      intro x hx
      simp only [List.mem_map] at hx
      obtain ⟨i,_,rfl⟩:=hx
      have hlt:i%m<zs.length:=by rw [hc3];exact Nat.mod_lt _ hc2
      rw [List.getD_eq_getElem?_getD,List.getElem?_eq_getElem hlt]
      exact List.all_eq_true.1 (AV.cells_ones hz2) _ (List.getElem_mem hlt)
     refine Gives.row (mk:=fun a=> .slice (some a) len len) (el:=e) hr e7 hones ?_ fun ρ' hρ=>?_
     ·simp only [Instr.buildSlice,Sem.run_bind,hI.run_und w hd,Result.andThen_ok,hI.run_size w hm]
      rw [if_neg (by omega)]
      by_cases h0:len*m=0
      ·have h1:(List.range (len*m)).map (fun i=>z.cells[i%z.cells.size]!)=[]:=by simp [h0]
       rw [h1] at e6
       have h2:Array.range 0=(#[]: Array Nat):=rfl
       simp [h0,h2,e6,newRow]
      ·simp [h0,e1,hbase,e6,newRow]
     ·simp only [VR]
      have hlen:=e7.length_eq
      have hfl:cs.length=len*m:=by
       have key : ∀ (ps:List (Nat×AV)) (xs ys:List AV),afill (fun i=>some (i*m,m)) xs ps=some ys→ys.length=xs.length:=by
        intro ps
        induction ps with
        | nil=>intro xs ys h;simp only [afill,Option.some.injEq] at h;rw [h]
        | cons p ps ih=>
         intro xs ys h
         obtain ⟨i,a⟩:=p
         simp only [afill] at h
         split at h
         ·rename_i off size zs' hp _
          cases hp
          split at h
          ·rename_i hl
           rw [ih _ _ h]
           simp;omega
          ·cases h
         ·cases h
       rw [key _ _ _ hf];simp
      exact ⟨_,_,len,_,hρ,rfl,Nat.le_refl _,fun _=>⟨by simp,by simp;omega⟩,fun c' hc'=>by cases hc';rfl⟩
    ·exact absurd h hX.fail
   ·exact absurd h hX.fail
  ·exact absurd h hX.fail
 ·exact absurd h hX.fail
end
end Go.Sx
end
section
namespace Go.Sx
open Go
section
variable {R:Type} {X:RI R} {sem:R→Prop} (hX:X.Ok sem) {I:Info} {P:Program} (hI:I.Ok P)
def Yields (P:Program) (H:AH) (s:Value→Sem Value) (x a:AV): Prop := ∀ c ρ w v,VR ρ x v→Rel c ρ H w→ ∃ u,(s v).run P w= .ok u w∧VR ρ a u
def Yields2 (P:Program) (H:AH) (s:Value→Value→Sem Value) (x y a:AV): Prop := ∀ c ρ w v u,VR ρ x v→VR ρ y u→Rel c ρ H w→ ∃ z,(s v u).run P w= .ok z w∧VR ρ a z
def afieldAddr (X:RI R) (I:Info) (t:TypeId) (p:AV) (f:Nat) (K:AV→R): R :=
 match p,(I.fields t).bind (·[f]?) with
 | .ptr l k e j,some (ft,o)=>match I.size ft with
  | some (_+1)=>K (.ptr l k e (j+o))
  | _=>X.fail
 | .fptr cs j,some (ft,o)=>match I.size ft with
  | some (_+1)=>K (.fptr cs (j+o))
  | _=>X.fail
 | _,_=>X.fail
include hX hI in
theorem afieldAddr_ok {t:TypeId} {p:AV} {f:Nat} {K:AV→R} (H:AH) (h:sem (afieldAddr X I t p f K)): ∃ a,sem (K a)∧Yields P H (fun v=>Instr.fieldAt t v f) p a:=by
 unfold afieldAddr at h
 split at h
 ·rename_i l k e j ft o hf
  split at h
  ·rename_i n hn
   refine ⟨_,h,fun c ρ w v hv hr=>?_⟩
   simp only [VR] at hv
   obtain ⟨b,N,hb,rfl⟩:=hv
   simp only [Option.bind_eq_some_iff] at hf
   obtain ⟨fl,h1,h2⟩:=hf
   obtain ⟨fa,e1,rfl,_⟩:=hI.fields t fl h1
   simp only [List.getElem?_map,Option.map_eq_some_iff,Prod.mk.injEq] at h2
   obtain ⟨g,h3,rfl,rfl⟩:=h2
   have h4:fa[f]? =some g:=by rw [←Array.getElem?_toList];exact h3
   have hu:(underlying t).run P w= .ok (.struct fa) w:=by simp [underlying,e1]
   refine ⟨.pointer (some ⟨b,k*e+(j+g.offset),none⟩),?_,by simp only [VR];exact ⟨b,N,hb,rfl⟩⟩
   simp [Instr.fieldAt,Instr.sureAddr,hu,h4,fieldPlace,hI.run_size w hn,addr_add,Nat.add_assoc]
  ·exact absurd h hX.fail
 ·rename_i cs j ft o hf
  split at h
  ·rename_i n hn
   refine ⟨_,h,fun c ρ w v hv hr=>?_⟩
   simp only [VR] at hv
   obtain ⟨b,q,vss,rfl,hv1,hv2⟩:=hv
   simp only [Option.bind_eq_some_iff] at hf
   obtain ⟨fl,h1,h2⟩:=hf
   obtain ⟨fa,e1,rfl,_⟩:=hI.fields t fl h1
   simp only [List.getElem?_map,Option.map_eq_some_iff,Prod.mk.injEq] at h2
   obtain ⟨g,h3,rfl,rfl⟩:=h2
   have h4:fa[f]? =some g:=by rw [←Array.getElem?_toList];exact h3
   have hu:(underlying t).run P w= .ok (.struct fa) w:=by simp [underlying,e1]
   refine ⟨.pointer (some ⟨b,q+(j+g.offset),none⟩),?_,by simp only [VR];exact ⟨b,q,vss,rfl,hv1,hv2⟩⟩
   simp [Instr.fieldAt,Instr.sureAddr,hu,h4,fieldPlace,hI.run_size w hn,addr_add,Nat.add_assoc]
  ·exact absurd h hX.fail
 ·exact absurd h hX.fail
def afield (X:RI R) (I:Info) (t:TypeId) (x:AV) (f:Nat) (K:AV→R): R :=
 match x,(I.fields t).bind (·[f]?) with
 | .agg cs,some (ft,o)=>match apart I ft cs o with
  | some a=>K a
  | none=>X.fail
 | _,_=>X.fail
include hX hI in
theorem afield_ok {t:TypeId} {x:AV} {f:Nat} {K:AV→R} (H:AH) (h:sem (afield X I t x f K)): ∃ a,sem (K a)∧Yields P H (fun v=>Instr.field t v f) x a:=by
 unfold afield at h
 split at h
 ·rename_i cs ft o hf
  split at h
  ·rename_i a ha
   refine ⟨_,h,fun c ρ w v hv hr=>?_⟩
   simp only [VR] at hv
   obtain ⟨vs,rfl,hvs⟩:=hv
   simp only [Option.bind_eq_some_iff] at hf
   obtain ⟨fl,h1,h2⟩:=hf
   obtain ⟨fa,e1,rfl,_⟩:=hI.fields t fl h1
   simp only [List.getElem?_map,Option.map_eq_some_iff,Prod.mk.injEq] at h2
   obtain ⟨g,h3,rfl,rfl⟩:=h2
   have h4:fa[f]? =some g:=by rw [←Array.getElem?_toList];exact h3
   have hu:(underlying t).run P w= .ok (.struct fa) w:=by simp [underlying,e1]
   obtain ⟨u,e2,e3⟩:=apart_ok hI ha hvs w
   exact ⟨u,by simp [Instr.field,hu,h4,asAgg,e2],e3⟩
  ·exact absurd h hX.fail
 ·exact absurd h hX.fail
def aindexAddr (X:RI R) (I:Info) (t:TypeId) (x i:AV) (K:AV→R): R :=
 match i with
 | .int _ i=>
  match I.und t,x with
  | some (.array n e),.ptr l k e0 j=>match I.size e with
   | some m=>X.assert (decide (0≤i)&&decide (i<n)) (K (match e0 with | 0=> .ptr l i.toNat m j | _=> .ptr l k e0 (j+i.toNat*m)))
   | none=>X.fail
  | some (.slice e),.slice l base k len _ e1=>match I.size e with
   | some m=>if m=e1 then X.assert (decide (0≤i)&&decide (i<len)) (K (.ptr l (k+i.toNat) m base)) else X.fail
   | none=>X.fail
  | some (.slice e),.own l len e1=>match I.size e with
   | some m=>if m=e1 then X.assert (decide (0≤i)&&decide (i<len)) (K (.ptr l i.toNat m 0)) else X.fail
   | none=>X.fail
  | some (.array n e),.fptr cs j=>match I.size e with
   | some m=>X.assert (decide (0≤i)&&decide (i<n)) (K (.fptr cs (j+i.toNat*m)))
   | none=>X.fail
  | some (.slice e),.fslice len e1 f=>match I.size e with
   | some m=>if m=e1 then X.assert (decide (0≤i)&&decide (i<len)) (K (.fptr (f i.toNat) 0)) else X.fail
   | none=>X.fail
  | _,_=>X.fail
 | _=>X.fail
include hX hI in
theorem aindexAddr_ok {t:TypeId} {x i:AV} {K:AV→R} (H:AH) (h:sem (aindexAddr X I t x i K)): ∃ a,sem (K a)∧Yields2 P H (fun v u=>Instr.indexAt t v u) x i a:=by
 unfold aindexAddr at h
 split at h
 ·rename_i ik i
  split at h
  ·rename_i n e l k e0 j hd
   split at h
   ·rename_i m hm
    obtain ⟨h1,h2⟩:=hX.assert _ _ h
    simp only [Bool.and_eq_true,decide_eq_true_eq] at h1
    refine ⟨_,h2,fun c ρ w v u hv hu hr=>?_⟩
    simp only [VR] at hv hu
    obtain ⟨b,N,hb,rfl⟩:=hv
    subst hu
    refine ⟨.pointer (some ⟨b,k*e0+j+i.toNat*m,none⟩),?_,?_⟩
    ·simp [Instr.indexAt,asIntOf,hI.run_und w hd,Instr.sureAddr,h1.1,h1.2,hI.run_size w hm,addr_add]
    ·cases e0 with
     | zero=>simp only [VR];exact ⟨b,N,hb,by simp;omega⟩
     | succ e0=>simp only [VR];exact ⟨b,N,hb,by simp [Nat.add_assoc]⟩
   ·exact absurd h hX.fail
  ·rename_i e l base k len cap e1 hd
   split at h
   ·rename_i m hm
    split at h
    ·rename_i hme
     subst hme
     obtain ⟨h1,h2⟩:=hX.assert _ _ h
     simp only [Bool.and_eq_true,decide_eq_true_eq] at h1
     refine ⟨_,h2,fun c ρ w v u hv hu hr=>?_⟩
     simp only [VR] at hv hu
     obtain ⟨b,N,cc,a,hb,rfl,hl,hc,_⟩:=hv
     subst hu
     obtain ⟨rfl,_⟩:=hc (by omega)
     refine ⟨.pointer (some ⟨b,base+k*m+i.toNat*m,none⟩),?_,?_⟩
     ·simp [Instr.indexAt,asIntOf,hI.run_und w hd,h1.1,h1.2,hI.run_size w hm,addr_add]
     ·simp only [VR];exact ⟨b,N,hb,by simp [Nat.add_mul];omega⟩
    ·exact absurd h hX.fail
   ·exact absurd h hX.fail
  ·rename_i e l len e1 hd
   split at h
   ·rename_i m hm
    split at h
    ·rename_i hme
     subst hme
     obtain ⟨h1,h2⟩:=hX.assert _ _ h
     simp only [Bool.and_eq_true,decide_eq_true_eq] at h1
     refine ⟨_,h2,fun c ρ w v u hv hu hr=>?_⟩
     simp only [VR] at hv hu
     subst hu
     rcases hv with ⟨h0,_⟩ | ⟨b,N,cc,hb,rfl,hl,hc⟩
     ·omega
     refine ⟨.pointer (some ⟨b,i.toNat*m,none⟩),?_,?_⟩
     ·simp [Instr.indexAt,asIntOf,hI.run_und w hd,h1.1,h1.2,hI.run_size w hm,addr_add]
     ·simp only [VR];exact ⟨b,N,hb,by simp⟩
    ·exact absurd h hX.fail
   ·exact absurd h hX.fail
  ·rename_i n e cs j hd
   split at h
   ·rename_i m hm
    obtain ⟨h1,h2⟩:=hX.assert _ _ h
    simp only [Bool.and_eq_true,decide_eq_true_eq] at h1
    refine ⟨_,h2,fun c ρ w v u hv hu hr=>?_⟩
    simp only [VR] at hv hu
    obtain ⟨b,q,vss,rfl,hv1,hv2⟩:=hv
    subst hu
    refine ⟨.pointer (some ⟨b,q+j+i.toNat*m,none⟩),?_,?_⟩
    ·simp [Instr.indexAt,asIntOf,hI.run_und w hd,Instr.sureAddr,h1.1,h1.2,hI.run_size w hm,addr_add]
    ·simp only [VR];exact ⟨b,q,vss,by simp [Nat.add_assoc],hv1,hv2⟩
   ·exact absurd h hX.fail
  ·rename_i e len e1 f hd
   split at h
   ·rename_i m hm
    split at h
    ·rename_i hme
     subst hme
     obtain ⟨h1,h2⟩:=hX.assert _ _ h
     simp only [Bool.and_eq_true,decide_eq_true_eq] at h1
     refine ⟨_,h2,fun c ρ w v u hv hu hr=>?_⟩
     simp only [VR] at hv hu
     subst hu
     rcases hv with ⟨h0,_⟩ | ⟨b,q,cc,a,vss,rfl,hl,hv⟩
     ·omega
     obtain ⟨rfl,hv1,hv2⟩:=hv (by omega)
     refine ⟨.pointer (some ⟨b,q+i.toNat*m,none⟩),?_,?_⟩
     ·simp [Instr.indexAt,asIntOf,hI.run_und w hd,h1.1,h1.2,hI.run_size w hm,addr_add]
     ·simp only [VR];exact ⟨b,q+i.toNat*m,vss i.toNat,by simp,hv1.row (fun i hi=>(hv2 i hi).1) (by omega),(hv2 i.toNat (by omega)).2⟩
    ·exact absurd h hX.fail
   ·exact absurd h hX.fail
  ·exact absurd h hX.fail
 ·exact absurd h hX.fail
def AV.isInt (k:IntKind): AV→Bool
 | .int k' _=>decide (k'=k)
 | _=>false
def AV.intOf:AV→Int
 | .int _ n=>n
 | _=>0
def pickI (cs:List AV) (i:Nat): Int:=(cs.map AV.intOf).getD i 0
def aindex (X:RI R) (I:Info) (t:TypeId) (x i:AV) (K:AV→R): R :=
 match i with
 | .int _ i=>
  match I.und t,x with
  | some (.array n e),.agg cs=>match I.und e with
   | some (.int k)=>if cs.all (AV.isInt k)=true∧cs.length=n∧I.size e=some 1 then X.assert (decide (0≤i)&&decide (i<n)) (K (.int k (pickI cs i.toNat))) else X.fail
   | _=>match I.size e with
    | some m=>X.assert (decide (0≤i)&&decide (i<n)) (match apart I e cs (i.toNat*m) with | some a=>K a | none=>X.fail)
    | none=>X.fail
  | some .string,.str s=>X.assert (decide (0≤i)&&decide (i<s.length)) (K (.int .u8 (s.getD i.toNat 0).toNat))
  | _,_=>X.fail
 | _=>X.fail
include hX hI in
theorem aindex_ok {t:TypeId} {x i:AV} {K:AV→R} (H:AH) (h:sem (aindex X I t x i K)): ∃ a,sem (K a)∧Yields2 P H (fun v u=>Instr.index t v u) x i a:=by
 unfold aindex at h
 split at h
 ·rename_i ik i
  split at h
  ·rename_i n e cs hd
   split at h
   ·rename_i k hk
    split at h
    ·rename_i hc
     obtain ⟨hall,hlen,hsz⟩:=hc
     obtain ⟨h1,h2⟩:=hX.assert _ _ h
     simp only [Bool.and_eq_true,decide_eq_true_eq] at h1
     refine ⟨_,h2,fun c ρ w v u hv hu hr=>?_⟩
     simp only [VR] at hv hu
     obtain ⟨vs,rfl,hvs⟩:=hv
     subst hu
     have hlt:i.toNat<cs.length:=by omega
     have hg:cs[i.toNat]? =some cs[i.toNat]:=List.getElem?_eq_getElem hlt
     have hin:=List.all_eq_true.1 hall cs[i.toNat] (List.getElem_mem hlt)
     obtain ⟨u,e1,e2⟩:=hvs.get i.toNat hg
     have ha:apart I e cs (i.toNat*1)=some cs[i.toNat]:=by simp [apart,hk,TypeDesc.agg,hg]
     obtain ⟨u',e3,e4⟩:=apart_ok hI ha hvs w
     refine ⟨u',by simp [Instr.index,asIntOf,hI.run_und w hd,h1.1,h1.2,hI.run_size w hsz];simpa using e3,?_⟩
     have:cs[i.toNat]= .int k (pickI cs i.toNat):=by
      unfold pickI
      rw [List.getD_eq_getElem?_getD,List.getElem?_map,hg]
      cases hx:cs[i.toNat] with
      | int k' n'=>rw [hx] at hin;simp [AV.isInt] at hin;simp [AV.intOf,hin]
      | _=>rw [hx] at hin;simp [AV.isInt] at hin
     rw [←this];exact e4
    ·exact absurd h hX.fail
   ·split at h
    ·rename_i m hm
     obtain ⟨h1,h2⟩:=hX.assert _ _ h
     simp only [Bool.and_eq_true,decide_eq_true_eq] at h1
     split at h2
     ·rename_i a ha
      refine ⟨_,h2,fun c ρ w v u hv hu hr=>?_⟩
      simp only [VR] at hv hu
      obtain ⟨vs,rfl,hvs⟩:=hv
      subst hu
      obtain ⟨u',e3,e4⟩:=apart_ok hI ha hvs w
      exact ⟨u',by simp [Instr.index,asIntOf,hI.run_und w hd,h1.1,h1.2,hI.run_size w hm,e3],e4⟩
     ·exact absurd h2 hX.fail
    ·exact absurd h hX.fail
  ·rename_i s hd
   obtain ⟨h1,h2⟩:=hX.assert _ _ h
   simp only [Bool.and_eq_true,decide_eq_true_eq] at h1
   refine ⟨_,h2,fun c ρ w v u hv hu hr=>?_⟩
   simp only [VR] at hv hu
   subst hv hu
   have hlt:i.toNat<s.length:=by omega
   refine ⟨.int .u8 (s.getD i.toNat 0).toNat,?_,by simp only [VR]⟩
   have hb:(⟨s.toArray⟩: ByteArray)[i.toNat]? =some (s.getD i.toNat 0):=by
    rw [List.getD_eq_getElem?_getD,List.getElem?_eq_getElem hlt]
    have hsz:i.toNat<(⟨s.toArray⟩: ByteArray).size:=by simpa [ByteArray.size] using hlt
    rw [getElem?_pos (⟨s.toArray⟩: ByteArray) i.toNat hsz]
    rfl
   simp [Instr.index,asIntOf,hI.run_und w hd,h1.1,hb]
  ·exact absurd h hX.fail
 ·exact absurd h hX.fail
def alen (X:RI R) (I:Info) (t:TypeId) (x:AV) (H:AH) (K:AV→R): R :=
 match I.und t,x with
 | some .string,.str s=>K (.int .i64 s.length)
 | some (.slice _),.slice _ _ _ len _ _=>K (.int .i64 len)
 | some (.slice _),.own _ len _=>K (.int .i64 len)
 | some (.slice _),.nilSlice=>K (.int .i64 0)
 | some (.array n _),_=>K (.int .i64 n)
 | some (.map _ _),.map none=>K (.int .i64 0)
 | some (.map _ _),.map (some l)=>match H.get l with
  | .map es=>match isMark es with | true=>X.fail | false=>K (.int .i64 es.length)
  | _=>X.fail
 | some (.slice _),.fslice len _ _=>K (.int .i64 len)
 | _,_=>X.fail
include hX hI in
theorem alen_ok {t:TypeId} {x:AV} {H:AH} {K:AV→R} (h:sem (alen X I t x H K)) (ts:Array TypeId) (ht:ts[0]? =some t) (ty:TypeId):
  ∃ a,sem (K a)∧Yields P H (fun v=>Builtin.len_ ts ty #[v]) x a:=by
 unfold alen at h
 split at h
 case h_1 s hd=>
  refine ⟨_,h,fun c ρ w v hv hr=>⟨.int .i64 s.length,?_,by simp only [VR]⟩⟩
  simp only [VR] at hv;subst hv
  have hz:(⟨s.toArray⟩: ByteArray).size=s.length:=by simp [ByteArray.size]
  simp [Builtin.len_,ht,hI.run_und w hd,goInt,hz]
 case h_2 len _ _ hd=>
  refine ⟨_,h,fun c ρ w v hv hr=>⟨.int .i64 len,?_,by simp only [VR]⟩⟩
  simp only [VR] at hv;obtain ⟨_,_,_,_,_,rfl,_⟩:=hv;simp [Builtin.len_,ht,hI.run_und w hd,goInt]
 case h_3 len _ hd=>
  refine ⟨_,h,fun c ρ w v hv hr=>⟨.int .i64 len,?_,by simp only [VR]⟩⟩
  simp only [VR] at hv;rcases hv with ⟨rfl,rfl⟩ | ⟨_,_,_,_,rfl,_⟩<;>simp [Builtin.len_,ht,hI.run_und w hd,goInt]
 case h_4 hd=>
  refine ⟨_,h,fun c ρ w v hv hr=>⟨.int .i64 0,?_,by simp only [VR]⟩⟩
  simp only [VR] at hv;subst hv;simp [Builtin.len_,ht,hI.run_und w hd,goInt]
 case h_5 n _ hd=>
  exact ⟨_,h,fun c ρ w v hv hr=>⟨.int .i64 n,by simp [Builtin.len_,ht,hI.run_und w hd,goInt],by simp only [VR]⟩⟩
 case h_6 hd=>
  refine ⟨_,h,fun c ρ w v hv hr=>⟨.int .i64 0,?_,by simp only [VR]⟩⟩
  simp only [VR] at hv;subst hv;simp [Builtin.len_,ht,hI.run_und w hd,goInt]
 case h_7 l hd=>
  split at h
  ·rename_i es hes
   split at h
   ·exact absurd h hX.fail
   rename_i hmk
   refine ⟨_,h,fun c ρ w v hv hr=>?_⟩
   simp only [VR] at hv
   obtain ⟨b,N,hb,rfl⟩:=hv
   have:=hr.blk l
   rw [hes,hb] at this
   obtain ⟨b',N',ms,clock,e1,e2,e34,_⟩:=this
   obtain ⟨e3,e4⟩:=e34.plain hmk
   cases e1
   have hl:=e3.length_eq
   simp only [List.length_map] at hl
   refine ⟨.int .i64 es.length,?_,by simp only [VR]⟩
   have hg:(getObj b).run P w= .ok (.map ms.toArray clock) w:=by simp [getObj,Sem.run,e2]
   simp [Builtin.len_,ht,hI.run_und w hd,goInt,hg,hl]
  ·exact absurd h hX.fail
 case h_8 len _ _ hd=>
  refine ⟨_,h,fun c ρ w v hv hr=>⟨.int .i64 len,?_,by simp only [VR]⟩⟩
  simp only [VR] at hv;rcases hv with ⟨rfl,rfl⟩ | ⟨_,_,_,_,_,rfl,_⟩<;>simp [Builtin.len_,ht,hI.run_und w hd,goInt]
 case h_9=>exact absurd h hX.fail
end
end Go.Sx
end
section
namespace Go.Sx
open Go
section
variable {R:Type} {X:RI R} {sem:R→Prop} (hX:X.Ok sem) {I:Info} {P:Program} (hI:I.Ok P)
def abound (x:Option AV) (d:Nat): Option Int :=
 match x with
 | none=>some d
 | some (.int _ n)=>some n
 | _=>none
def BoundR (x:Option AV) (v:Option Value): Prop :=
 match x,v with
 | none,none=>True
 | some a,some u=> ∀ k n,a= .int k n→u= .int k n
 | _,_=>False
def aslice (X:RI R) (I:Info) (t:TypeId) (x:AV) (lo hi mx:Option AV) (H:AH) (K:AV→R): R :=
 match I.und t,x with
 | some (.array n e),.ptr l k e0 j=>
  match I.size e,abound lo 0,abound hi n,mx with
  | some m,some a,some b,none=>
   match (H.get l).at k e0 j (n*m) with
   | some (ok,_)=>X.assert (decide (0≤a)&&decide (a≤b)&&decide (b≤n)&&ok) (K (.slice l (k*e0+j) a.toNat (b-a).toNat (some (n-a.toNat)) m))
   | none=>X.fail
  | _,_,_,_=>X.fail
 | some .string,.str s=>
  match abound lo 0,abound hi s.length,mx with
  | some a,some b,none=>X.assert (decide (0≤a)&&decide (a≤b)&&decide (b≤s.length)) (K (.str ((s.drop a.toNat).take (b.toNat-a.toNat))))
  | _,_,_=>X.fail
 | some (.slice e),.slice l base k len cap e1=>
  match I.size e,abound lo 0,abound hi len,mx,abound mx len with
  | some m,some a,some b,none,_=>
   if m=e1 then X.assert (decide (0≤a)&&decide (a≤b)&&decide (b≤len)) (K (.slice l base (k+a.toNat) (b-a).toNat (cap.map (· - a.toNat)) m)) else X.fail
  | some m,some a,some b,some _,some c=>
   if m=e1∧hi.isSome=true then X.assert (decide (0≤a)&&decide (a≤b)&&decide (b≤c)&&decide (c≤len)) (K (.slice l base (k+a.toNat) (b-a).toNat (some (c-a).toNat) m)) else X.fail
  | _,_,_,_,_=>X.fail
 | some (.slice e),.nilSlice=>
  match I.size e,abound lo 0,abound hi 0,mx,abound mx 0 with
  | some _,some a,some b,none,_=>X.assert (decide (0≤a)&&decide (a≤b)&&decide (b≤0)) (K .nilSlice)
  | some _,some a,some b,some _,some c=>if hi.isSome=true then X.assert (decide (0≤a)&&decide (a≤b)&&decide (b≤c)&&decide (c≤0)) (K .nilSlice) else X.fail
  | _,_,_,_,_=>X.fail
 | some (.slice e),.own l len e1=>
  match I.size e,lo,abound hi len,mx,abound lo 0,abound mx len with
  | some m,none,some b,none,_,_=>if m=e1 then X.assert (decide (0≤b)&&decide (b≤len)) (K (.own l b.toNat m)) else X.fail
  | some m,_,some b,none,some a,_=>if m=e1 then X.assert (decide (0≤a)&&decide (a≤b)&&decide (b≤len)&&decide (0<len)) (K (.slice l 0 a.toNat (b-a).toNat none m)) else X.fail
  | some m,_,some b,some _,some a,some c=>
   if m=e1∧hi.isSome=true then X.assert (decide (0≤a)&&decide (a≤b)&&decide (b≤c)&&decide (c≤len)&&decide (0<len)) (K (.slice l 0 a.toNat (b-a).toNat (some (c-a).toNat) m)) else X.fail
  | _,_,_,_,_,_=>X.fail
 | some (.slice e),.fslice len e1 f=>
  match I.size e,abound lo 0,abound hi len,mx with
  | some m,some a,some b,none=>
   if m=e1 then X.assert (decide (0≤a)&&decide (a≤b)&&decide (b≤len)) (K (.fslice (b-a).toNat m (fun i=>f (a.toNat+i)))) else X.fail
  | _,_,_,_=>X.fail
 | _,_=>X.fail
theorem bound_low {P:Program} {w:World} {x:Option AV} {v:Option Value} {a:Int} {h:Nat} {code:BoundsCode} (hb:BoundR x v) (ha:abound x 0=some a) (h0:0≤a) (h1:a≤h):
  (match (generalizing:=false) v with
  | some v=>Instr.sliceBound v h code
  | none=>pure 0:Sem Nat).run P w= .ok a.toNat w:=by
 cases x with
 | none=>cases v with
  | none=>simp [abound] at ha;subst ha;simp
  | some v=>exact hb.elim
 | some x=>cases v with
  | none=>exact hb.elim
  | some v=>cases x with
   | int k n=>
    simp only [abound,Option.some.injEq] at ha
    subst ha
    have:=hb k n rfl
    subst this
    simp [Instr.sliceBound,asIntOf,h0,h1]
   | _=>simp [abound] at ha
theorem bound_high {P:Program} {w:World} {x:Option AV} {v:Option Value} {b:Int} {d c:Nat} {code:BoundsCode} (hb:BoundR x v) (ha:abound x d=some b) (h0:0≤b) (h1:b≤c) (_:d≤c):
  (match (generalizing:=false) v with
  | some v=>Instr.sliceBound v c code
  | none=>pure d:Sem Nat).run P w= .ok b.toNat w:=by
 cases x with
 | none=>cases v with
  | none=>simp [abound] at ha;subst ha;simp
  | some v=>exact hb.elim
 | some x=>cases v with
  | none=>exact hb.elim
  | some v=>cases x with
   | int k n=>
    simp only [abound,Option.some.injEq] at ha
    subst ha
    have:=hb k n rfl
    subst this
    simp [Instr.sliceBound,asIntOf,h0,h1]
   | _=>simp [abound] at ha
theorem run_bounds2 {P:Program} {w:World} {lo hi:Option AV} {lv hv:Option Value} {a b:Int} {isSlice:Bool} {len cap:Nat} (h1:BoundR lo lv) (h2:BoundR hi hv) (ha:abound lo 0=some a) (hb:abound hi len=some b)
  (h3:0≤a) (h4:a≤b) (h5:b≤len) (h6:len≤cap): (Instr.sliceBounds isSlice len cap lv hv none).run P w= .ok (a.toNat,b.toNat,cap) w:=by
 have e1 : ∀ code,(match (generalizing:=false) hv with
  | some v=>Instr.sliceBound v cap code
  | none=>pure len:Sem Nat).run P w= .ok b.toNat w:=fun code=>bound_high (code:=code) h2 hb (by omega) (by omega) h6
 have e2 : ∀ code,(match (generalizing:=false) lv with
  | some v=>Instr.sliceBound v b.toNat code
  | none=>pure 0:Sem Nat).run P w= .ok a.toNat w:=fun code=>bound_low (code:=code) h1 ha h3 (by omega)
 cases hv<;>cases lv<;>simp [Instr.sliceBounds] at e1 e2⊢ <;>simp [e1,e2]
theorem run_bounds3 {P:Program} {w:World} {lo hi mx:Option AV} {lv:Option Value} {hv mv:Value} {a b c:Int} {len cap:Nat} (h1:BoundR lo lv) (h2:BoundR hi (some hv)) (h7:BoundR mx (some mv)) (ha:abound lo 0=some a) (hb:abound hi len=some b) (hc:abound mx len=some c)
  (h3:0≤a) (h4:a≤b) (h5:b≤c) (h6:c≤cap): (Instr.sliceBounds true len cap lv (some hv) (some mv)).run P w= .ok (a.toNat,b.toNat,c.toNat) w:=by
 have e0 : ∀ code,(Instr.sliceBound mv cap code).run P w= .ok c.toNat w:=fun code=>by
  cases mx with
  | none=>exact h7.elim
  | some x=>cases x with
   | int k n=>
    simp only [abound,Option.some.injEq] at hc;subst hc
    have:=h7 k n rfl;subst this
    simp [Instr.sliceBound,asIntOf,show (0:Int)≤n by omega,h6]
   | _=>simp [abound] at hc
 have e1 : ∀ code,(Instr.sliceBound hv c.toNat code).run P w= .ok b.toNat w:=fun code=>by
  cases hi with
  | none=>exact h2.elim
  | some x=>cases x with
   | int k n=>
    simp only [abound,Option.some.injEq] at hb;subst hb
    have:=h2 k n rfl;subst this
    have h8:n≤(c.toNat:Int):=by omega
    simp only [Instr.sliceBound,asIntOf,Sem.run_bind,Sem.run_pure,Result.andThen_ok,show (0:Int)≤n by omega,h8,and_self,if_true]
   | _=>simp [abound] at hb
 have e2 : ∀ code,(match (generalizing:=false) lv with
  | some v=>Instr.sliceBound v b.toNat code
  | none=>pure 0:Sem Nat).run P w= .ok a.toNat w:=fun code=>bound_low (code:=code) h1 ha h3 (by omega)
 cases lv<;>simp [Instr.sliceBounds] at e2⊢ <;>simp [e0,e1,e2]
theorem addr_shift (b o m cap a:Nat): ∃ x:Addr,(if cap=a then (⟨b,o,none⟩: Addr) else Addr.add ⟨b,o,none⟩ (a*m))=x∧(0<cap-a→x=⟨b,o+a*m,none⟩):=by
 refine ⟨_,rfl,fun h=>?_⟩
 rw [if_neg (by omega),addr_add]
include hX hI in
theorem aslice_ok {t:TypeId} {x:AV} {lo hi mx:Option AV} {K:AV→R} (H:AH) (h:sem (aslice X I t x lo hi mx H K)):
  ∃ a,sem (K a)∧ ∀ c ρ w v lv hv mv,VR ρ x v→BoundR lo lv→BoundR hi hv→BoundR mx mv→Rel c ρ H w→ ∃ u,(Instr.sliceAt t v lv hv mv).run P w= .ok u w∧VR ρ a u:=by
 unfold aslice at h
 split at h
 case h_1 n e l k e0 j hd=>
  split at h
  ·rename_i m a b hm ha hb
   split at h
   ·rename_i ok xs hat
    obtain ⟨hc,hK⟩:=hX.assert _ _ h
    simp only [Bool.and_eq_true,decide_eq_true_eq] at hc
    obtain ⟨⟨⟨h1,h2⟩,h3⟩,rfl⟩:=hc
    refine ⟨_,hK,fun c ρ w v lv hv mv hv0 hlo hhi hmx hr=>?_⟩
    simp only [VR] at hv0
    obtain ⟨bb,N,hbb,rfl⟩:=hv0
    have hblk:=hr.blk l
    rw [hbb] at hblk
    obtain ⟨us,_,_,hN,_⟩:=ABlk.at_ok hblk hat
    cases mv with
    | some _=>exact hmx.elim
    | none=>
     have e1:=run_bounds2 (P:=P) (w:=w) (isSlice:=false) (len:=n) (cap:=n) hlo hhi ha hb h1 h2 h3 (Nat.le_refl _)
     obtain ⟨y,hy,hy2⟩:=addr_shift bb (k*e0+j) m n a.toNat
     refine ⟨.slice (some y) (b.toNat-a.toNat) (n-a.toNat),?_,?_⟩
     ·simp [Instr.sliceAt,hI.run_und w hd,Instr.sureAddr,e1,hI.run_size w hm,←hy]
     ·simp only [VR]
      refine ⟨bb,N,n-a.toNat,y,hbb,by congr 1;omega,by omega,fun hp=>⟨hy2 hp,?_⟩,fun c' hc'=>by cases hc';rfl⟩
      have:a.toNat*m+(n-a.toNat)*m=n*m:=by rw [←Nat.add_mul];congr 1;omega
      omega
   ·exact absurd h hX.fail
  ·exact absurd h hX.fail
 case h_2 s hd=>
  split at h
  ·rename_i a b ha hb
   obtain ⟨hc,hK⟩:=hX.assert _ _ h
   simp only [Bool.and_eq_true,decide_eq_true_eq] at hc
   obtain ⟨⟨h1,h2⟩,h3⟩:=hc
   refine ⟨_,hK,fun c ρ w v lv hv mv hv0 hlo hhi hmx hr=>?_⟩
   simp only [VR] at hv0
   subst hv0
   cases mv with
   | some _=>exact hmx.elim
   | none=>
    have hz:(⟨s.toArray⟩: ByteArray).size=s.length:=by simp [ByteArray.size]
    have e1:=run_bounds2 (P:=P) (w:=w) (isSlice:=false) (len:=s.length) (cap:=s.length) hlo hhi ha hb h1 h2 h3 (Nat.le_refl _)
    refine ⟨_,by simp [Instr.sliceAt,hI.run_und w hd,Instr.slice,hz,e1];rfl,?_⟩
    simp only [VR]
    congr 1
    apply ByteArray.ext
    simp [List.extract_eq_take_drop]
  ·exact absurd h hX.fail
 case h_3 e l base k len cap e1 hd=>
  split at h
  ·rename_i m a b hm ha hb
   split at h
   ·rename_i hme
    subst hme
    obtain ⟨hc,hK⟩:=hX.assert _ _ h
    simp only [Bool.and_eq_true,decide_eq_true_eq] at hc
    obtain ⟨⟨h1,h2⟩,h3⟩:=hc
    refine ⟨_,hK,fun c ρ w v lv hv mv hv0 hlo hhi hmx hr=>?_⟩
    simp only [VR] at hv0
    obtain ⟨bb,N,cc,x,hbb,rfl,hl,hcc,hcap⟩:=hv0
    cases mv with
    | some _=>exact hmx.elim
    | none=>
     have e2:=run_bounds2 (P:=P) (w:=w) (isSlice:=true) (len:=len) (cap:=cc) hlo hhi ha hb h1 h2 h3 hl
     refine ⟨.slice (some (if cc=a.toNat then x else x.add (a.toNat*m))) (b.toNat-a.toNat) (cc-a.toNat),?_,?_⟩
     ·simp only [Instr.sliceAt,Sem.run_bind,hI.run_und w hd,Result.andThen_ok,Instr.slice,e2,hI.run_size w hm,Sem.run_pure]
      split<;>simp
     ·simp only [VR]
      refine ⟨bb,N,cc-a.toNat,_,hbb,by congr 1;omega,by omega,fun hp=>?_,fun c' hc'=>?_⟩
      ·obtain ⟨rfl,hN⟩:=hcc (by omega)
       rw [if_neg (by omega),addr_add]
       have:a.toNat*m+(cc-a.toNat)*m=cc*m:=by rw [←Nat.add_mul];congr 1;omega
       have e3:(k+a.toNat)*m=k*m+a.toNat*m:=Nat.add_mul _ _ _
       exact ⟨by rw [e3,Nat.add_assoc],by omega⟩
      ·simp only [Option.map_eq_some_iff] at hc'
       obtain ⟨c0,h0,rfl⟩:=hc'
       rw [hcap c0 h0]
   ·exact absurd h hX.fail
  ·rename_i m a b _ cv hm ha hb hcv
   split at h
   ·rename_i hme
    obtain ⟨hme,hhs⟩:=hme
    subst hme
    obtain ⟨hc,hK⟩:=hX.assert _ _ h
    simp only [Bool.and_eq_true,decide_eq_true_eq] at hc
    obtain ⟨⟨⟨h1,h2⟩,h3⟩,h4⟩:=hc
    refine ⟨_,hK,fun c ρ w v lv hv mv hv0 hlo hhi hmx hr=>?_⟩
    simp only [VR] at hv0
    obtain ⟨bb,N,cc,x,hbb,rfl,hl,hcc,hcap⟩:=hv0
    cases mv with
    | none=>exact hmx.elim
    | some mv=>
     cases hv with
     | none=>cases hi<;>first | (simp at hhs;done) | exact hhi.elim
     | some hv=>
      have e2:=run_bounds3 (P:=P) (w:=w) (len:=len) (cap:=cc) hlo hhi hmx ha hb hcv h1 h2 h3 (by omega)
      refine ⟨.slice (some (if cv.toNat=a.toNat then x else x.add (a.toNat*m))) (b.toNat-a.toNat) (cv.toNat-a.toNat),?_,?_⟩
      ·simp only [Instr.sliceAt,Sem.run_bind,hI.run_und w hd,Result.andThen_ok,Instr.slice,e2,hI.run_size w hm,Sem.run_pure]
       split<;>simp
      ·simp only [VR]
       refine ⟨bb,N,cv.toNat-a.toNat,_,hbb,by congr 1;omega,by omega,fun hp=>?_,fun c' hc'=>by cases hc';omega⟩
       obtain ⟨rfl,hN⟩:=hcc (by omega)
       rw [if_neg (by omega),addr_add]
       have:a.toNat*m+(cv.toNat-a.toNat)*m≤cc*m:=by rw [←Nat.add_mul];exact Nat.mul_le_mul_right _ (by omega)
       have e3:(k+a.toNat)*m=k*m+a.toNat*m:=Nat.add_mul _ _ _
       exact ⟨by rw [e3,Nat.add_assoc],by omega⟩
   ·exact absurd h hX.fail
  ·exact absurd h hX.fail
 case h_4 e hd=>
  split at h
  ·rename_i m a b hm ha hb
   obtain ⟨hc,hK⟩:=hX.assert _ _ h
   simp only [Bool.and_eq_true,decide_eq_true_eq] at hc
   obtain ⟨⟨h1,h2⟩,h3⟩:=hc
   refine ⟨_,hK,fun c ρ w v lv hv mv hv0 hlo hhi hmx hr=>?_⟩
   simp only [VR] at hv0
   subst hv0
   cases mv with
   | some _=>exact hmx.elim
   | none=>
    have e2:=run_bounds2 (P:=P) (w:=w) (isSlice:=true) (len:=0) (cap:=0) hlo hhi ha hb h1 h2 (by simpa using h3) (Nat.le_refl _)
    have h4:a.toNat=0:=by omega
    have h5:b.toNat=0:=by omega
    rw [h4,h5] at e2
    exact ⟨_,by simp [Instr.sliceAt,hI.run_und w hd,Instr.slice,e2,hI.run_size w hm];rfl,by simp only [VR]⟩
  ·rename_i m a b _ cv hm ha hb hcv
   split at h
   ·rename_i hhs
    obtain ⟨hc,hK⟩:=hX.assert _ _ h
    simp only [Bool.and_eq_true,decide_eq_true_eq] at hc
    obtain ⟨⟨⟨h1,h2⟩,h3⟩,h4⟩:=hc
    refine ⟨_,hK,fun c ρ w v lv hv mv hv0 hlo hhi hmx hr=>?_⟩
    simp only [VR] at hv0
    subst hv0
    cases mv with
    | none=>exact hmx.elim
    | some mv=>
     cases hv with
     | none=>cases hi<;>first | (simp at hhs;done) | exact hhi.elim
     | some hv=>
      have e2:=run_bounds3 (P:=P) (w:=w) (len:=0) (cap:=0) hlo hhi hmx ha hb hcv h1 h2 h3 (by simpa using h4)
      have h5:a.toNat=0:=by omega
      have h6:b.toNat=0:=by omega
      have h7:cv.toNat=0:=by omega
      rw [h5,h6,h7] at e2
      exact ⟨_,by simp [Instr.sliceAt,hI.run_und w hd,Instr.slice,e2,hI.run_size w hm];rfl,by simp only [VR]⟩
   ·exact absurd h hX.fail
  ·exact absurd h hX.fail
 case h_5 e l len e1 hd=>
  split at h
  ·rename_i m b hm hb
   split at h
   ·rename_i hme
    subst hme
    obtain ⟨hc,hK⟩:=hX.assert _ _ h
    simp only [Bool.and_eq_true,decide_eq_true_eq] at hc
    obtain ⟨h2,h3⟩:=hc
    refine ⟨_,hK,fun c ρ w v lv hv mv hv0 hlo hhi hmx hr=>?_⟩
    cases mv with
    | some _=>exact hmx.elim
    | none=>
    cases lv with
    | some _=>exact hlo.elim
    | none=>
     simp only [VR] at hv0⊢
     rcases hv0 with ⟨rfl,rfl⟩ | ⟨bb,N,cc,hbb,rfl,hl,hcc⟩
     ·have e2:=run_bounds2 (P:=P) (w:=w) (isSlice:=true) (len:=0) (cap:=0) hlo hhi rfl hb (Int.le_refl 0) h2 (by simpa using h3) (Nat.le_refl _)
      have h5:b.toNat=0:=by omega
      rw [h5] at e2⊢
      exact ⟨.slice none 0 0,by simp [Instr.sliceAt,hI.run_und w hd,Instr.slice,e2,hI.run_size w hm],.inl ⟨rfl,rfl⟩⟩
     ·have e2:=run_bounds2 (P:=P) (w:=w) (isSlice:=true) (len:=len) (cap:=cc) hlo hhi rfl hb (Int.le_refl 0) h2 h3 hl
      refine ⟨.slice (some ⟨bb,0,none⟩) b.toNat cc,?_,.inr ⟨bb,N,cc,hbb,rfl,by omega,hcc⟩⟩
      simp only [Instr.sliceAt,Sem.run_bind,hI.run_und w hd,Result.andThen_ok,Instr.slice,e2,hI.run_size w hm,Sem.run_pure]
      split<;>simp [addr_add]
   ·exact absurd h hX.fail
  ·rename_i m b a hm _ hb ha
   split at h
   ·rename_i hme
    subst hme
    obtain ⟨hc,hK⟩:=hX.assert _ _ h
    simp only [Bool.and_eq_true,decide_eq_true_eq] at hc
    obtain ⟨⟨⟨h1,h2⟩,h3⟩,h4⟩:=hc
    refine ⟨_,hK,fun c ρ w v lv hv mv hv0 hlo hhi hmx hr=>?_⟩
    cases mv with
    | some _=>exact hmx.elim
    | none=>
     simp only [VR] at hv0⊢
     rcases hv0 with ⟨rfl,rfl⟩ | ⟨bb,N,cc,hbb,rfl,hl,hcc⟩
     ·omega
     ·have e2:=run_bounds2 (P:=P) (w:=w) (isSlice:=true) (len:=len) (cap:=cc) hlo hhi ha hb h1 h2 h3 hl
      refine ⟨.slice (some (if cc=a.toNat then ⟨bb,0,none⟩ else Addr.add ⟨bb,0,none⟩ (a.toNat*m))) (b.toNat-a.toNat) (cc-a.toNat),?_,?_⟩
      ·simp only [Instr.sliceAt,Sem.run_bind,hI.run_und w hd,Result.andThen_ok,Instr.slice,e2,hI.run_size w hm,Sem.run_pure]
       split<;>simp
      ·refine ⟨bb,N,cc-a.toNat,_,hbb,by congr 1;omega,by omega,fun hp=>?_,fun c' hc'=>by cases hc'⟩
       rw [if_neg (by omega),addr_add]
       have:a.toNat*m+(cc-a.toNat)*m=cc*m:=by rw [←Nat.add_mul];congr 1;omega
       exact ⟨rfl,by omega⟩
   ·exact absurd h hX.fail
  ·rename_i m b _ a cv hm hb ha hcv
   split at h
   ·rename_i hme
    obtain ⟨hme,hhs⟩:=hme
    subst hme
    obtain ⟨hc,hK⟩:=hX.assert _ _ h
    simp only [Bool.and_eq_true,decide_eq_true_eq] at hc
    obtain ⟨⟨⟨⟨h1,h2⟩,h3⟩,h4⟩,h5⟩:=hc
    refine ⟨_,hK,fun c ρ w v lv hv mv hv0 hlo hhi hmx hr=>?_⟩
    simp only [VR] at hv0⊢
    rcases hv0 with ⟨rfl,rfl⟩ | ⟨bb,N,cc,hbb,rfl,hl,hcc⟩
    ·omega
    cases mv with
    | none=>exact hmx.elim
    | some mv=>
     cases hv with
     | none=>cases hi<;>first | (simp at hhs;done) | exact hhi.elim
     | some hv=>
      have e2:=run_bounds3 (P:=P) (w:=w) (len:=len) (cap:=cc) hlo hhi hmx ha hb hcv h1 h2 h3 (by omega)
      refine ⟨.slice (some (if cv.toNat=a.toNat then ⟨bb,0,none⟩ else Addr.add ⟨bb,0,none⟩ (a.toNat*m))) (b.toNat-a.toNat) (cv.toNat-a.toNat),?_,?_⟩
      ·simp only [Instr.sliceAt,Sem.run_bind,hI.run_und w hd,Result.andThen_ok,Instr.slice,e2,hI.run_size w hm,Sem.run_pure]
       split<;>simp
      ·refine ⟨bb,N,cv.toNat-a.toNat,_,hbb,by congr 1;omega,by omega,fun hp=>?_,fun c' hc'=>by cases hc';omega⟩
       rw [if_neg (by omega),addr_add]
       have:a.toNat*m+(cv.toNat-a.toNat)*m≤cc*m:=by rw [←Nat.add_mul];exact Nat.mul_le_mul_right _ (by omega)
       exact ⟨rfl,by omega⟩
   ·exact absurd h hX.fail
  ·exact absurd h hX.fail
 case h_6 e len e1 f hd=>
  split at h
  ·rename_i m a b hm ha hb
   split at h
   ·rename_i hme
    subst hme
    obtain ⟨hc,hK⟩:=hX.assert _ _ h
    simp only [Bool.and_eq_true,decide_eq_true_eq] at hc
    obtain ⟨⟨h1,h2⟩,h3⟩:=hc
    refine ⟨_,hK,fun c ρ w v lv hv mv hv0 hlo hhi hmx hr=>?_⟩
    cases mv with
    | some _=>exact hmx.elim
    | none=>
     simp only [VR] at hv0⊢
     rcases hv0 with ⟨rfl,rfl⟩ | ⟨bb,q,cc,x,vss,rfl,hl,hcc⟩
     ·have e2:=run_bounds2 (P:=P) (w:=w) (isSlice:=true) (len:=0) (cap:=0) hlo hhi ha hb h1 h2 (by simpa using h3) (Nat.le_refl _)
      have h4:a.toNat=0:=by omega
      have h5:b.toNat=0:=by omega
      rw [h4,h5] at e2
      exact ⟨.slice none 0 0,by simp [Instr.sliceAt,hI.run_und w hd,Instr.slice,e2,hI.run_size w hm],.inl ⟨by omega,rfl⟩⟩
     ·have e2:=run_bounds2 (P:=P) (w:=w) (isSlice:=true) (len:=len) (cap:=cc) hlo hhi ha hb h1 h2 h3 hl
      refine ⟨.slice (some (if cc=a.toNat then x else x.add (a.toNat*m))) (b.toNat-a.toNat) (cc-a.toNat),?_,?_⟩
      ·simp only [Instr.sliceAt,Sem.run_bind,hI.run_und w hd,Result.andThen_ok,Instr.slice,e2,hI.run_size w hm,Sem.run_pure]
       split<;>simp
      ·refine .inr ⟨bb,q+a.toNat*m,cc-a.toNat,_,fun i=>vss (a.toNat+i),by congr 1;omega,by omega,fun hp=>?_⟩
       obtain ⟨rfl,hv1,hv2⟩:=hcc (by omega)
       rw [if_neg (by omega),addr_add]
       exact ⟨rfl,hv1.part (fun i hi=>(hv2 i hi).1) (by omega),fun i hi=>hv2 _ (by omega)⟩
   ·exact absurd h hX.fail
  ·exact absurd h hX.fail
 case h_7=>exact absurd h hX.fail
def aunOp (X:RI R) (wr:Bool) (op:UnOp) (x:AV) (K:AV→R): R :=
 match op,x with
 | .neg,.int k n=>X.assert (fits wr k (0-n)).1 (K (.int k (fits wr k (0-n)).2))
 | .xor,.int k n=>K (.int k (bitsOf .xor k (if k.signed then -1 else k.max) n))
 | .not,.bool b=>K (.bool (!b))
 | _,_=>X.fail
include hX in
theorem aunOp_ok {wr:Bool} {op:UnOp} {x:AV} {K:AV→R} (H:AH) (h:sem (aunOp X wr op x K)): ∃ a,sem (K a)∧Yields P H (fun v=>Op.unary op v) x a:=by
 unfold aunOp at h
 split at h
 ·rename_i k n
  obtain ⟨h1,h2⟩:=hX.assert _ _ h
  have:=fits_ok (wr:=wr) (k:=k) (n:=0-n) (m:=(fits wr k (0-n)).2) (by rw [←h1])
  exact ⟨_,h2,fun c ρ w v hv _=>⟨.int k (fits wr k (0-n)).2,by simp only [VR] at hv;subst hv;simp only [Op.unary,Op.intArith,this,Sem.run_pure],by simp only [VR]⟩⟩
 ·rename_i k n
  exact ⟨_,h,fun c ρ w v hv _=>⟨_,by simp only [VR] at hv;subst hv;simp only [Op.unary,Op.intBits,Sem.run_pure];rfl,by simp only [VR,bitsOf]⟩⟩
 ·exact ⟨_,h,fun c ρ w v hv _=>⟨_,by simp only [VR] at hv;subst hv;simp only [Op.unary,Sem.run_pure];rfl,by simp only [VR]⟩⟩
 ·exact absurd h hX.fail
end
end Go.Sx
end
