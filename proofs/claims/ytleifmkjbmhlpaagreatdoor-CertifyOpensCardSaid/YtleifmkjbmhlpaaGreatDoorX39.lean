/- CertifyOpens is proved, part 39. -/
import Derived.OpenShut
import Derived.ReadAgain
import Derived.ChangeStays
import Derived.ChangeSame
import Derived.Deep.Slices
import Derived.Test.YtleifmkjbmhlpaaGreatDoorX10
import Derived.Test.YtleifmkjbmhlpaaGreatDoorX06
import Derived.Test.YtleifmkjbmhlpaaGreatDoorX04
import Derived.WideKeyElems2
import Derived.LaidMore
import Derived.WideShapes
set_option linter.unusedVariables false
set_option linter.unusedSimpArgs false
set_option linter.unusedSectionVars false
section
set_option maxRecDepth 1000000
namespace Go.Sx
open Go Go.ChangeShapes Go.WideShapes Go.Deep
def intsRow (m:Nat) (X:Nat→Nat→Int) (j:Nat): List AV:=(List.range m).map fun k=> .int .i64 (X j k)
def FzAll (ρ:Env) (W:World): Prop := ∀ b cs el fr,W.heap[b]? =some (.cells cs el fr)→ρ.fz b=some cs.toList
section
variable {H:Type} {enc:TypeId×Value→H} {P:Program} {W:World} {sp:Nat→Bool} {held:Bool}
theorem ints_cell {ρ:Env}: ∀ {m:Nat} {us:List Value} {x:Nat→Int},us.length=m→(∀ k,k<m→us[k]? =some (.int .i64 (x k)))→VRs ρ ((List.range m).map fun k=> .int .i64 (x k)) us
 | 0,us,x,hl,_=>by
  have:us=[]:=List.length_eq_zero_iff.1 hl
  subst this;exact rfl
 | m+1,us,x,hl,h=>by
  match us,hl,h with
  | u::us,hl,h=>
   have h0:=h 0 (by omega)
   simp only [List.getElem?_cons_zero,Option.some.injEq] at h0
   rw [List.range_succ_eq_map,List.map_cons,List.map_map]
   refine ⟨u,us,rfl,h0,ints_cell (m:=m) (x:=fun k=>x (k+1)) (by simpa using hl) fun k hk=>?_⟩
   have:=h (k+1) (by omega)
   simpa using this
theorem open_rows {ρ:Env} (hρ:FzAll ρ W) {t e i m:Nat} {fuel:Nat} {v:Value} {x:DataW H×List MemPlace} (ht:P.underlying t=some (.slice e)) (he:P.underlying e=some (.array m i)) (hi:P.underlying i=some (.int .i64)) (ci:P.cellsOf i=1) (ce:P.cellsOf e=m) (hm:0<m)
  (h:DataW.trod enc P W 0 sp held fuel t [v]=some x): ∃ (n:Nat) (X:Nat→Nat→Int),VR ρ (.fslice n m (intsRow m X)) v∧ ∀ j,j<n→ ∀ k,k<m→inR .i64 (X j k)=true:=by
 rcases open_slice ht h with ⟨h0,_⟩ | ⟨a,len,cap,mm,nn,D,Pl,hv,_,hl,_,hmm,_,hx⟩
 ·cases h0
  refine ⟨0,fun _ _=>0,?_,fun j hj=>absurd hj (Nat.not_lt_zero _)⟩
  simp [VR]
 ·cases hv
  have hlm:len≤mm:=by rw [hmm];split<;>omega
  rw [ce] at hx
  by_cases hz:len=0
  ·subst hz
   refine ⟨0,fun _ _=>0,?_,fun j hj=>absurd hj (Nat.not_lt_zero _)⟩
   simp only [VR]
   exact .inr ⟨0,0,cap,a,fun _=>[],rfl,hl,fun h=>absurd h (Nat.lt_irrefl _)⟩
  ·have cells : ∀ j k,j<len→k<m→ ∃ z,W.cell? (a.add (j*m+k))=some (.int .i64 z)∧inR .i64 z=true:=by
    intro j k hj hk
    obtain ⟨cs',h1,h2⟩:=hx j (by omega)
    obtain ⟨_,hlen,hc⟩:=World.cells?_some h1
    obtain ⟨xs,m',_,_,_,_,hel⟩:=DataW.trod_array he h2
    have hk2:=hel k hk
    rw [ci,Nat.mul_one] at hk2
    have hlt:k<xs.length:=by omega
    rw [List.getElem?_eq_getElem hlt] at hk2
    obtain ⟨z,hz1,_,hwf⟩:=DataW.trod_int hi hk2
    have hck:cs'[k]? =some (.int .i64 z):=by
     have:=congrArg (·[0]?) hz1
     simpa [List.getElem?_take,List.getElem?_drop] using this
    refine ⟨z,?_,hwf⟩
    rw [←add_add,hc k hk];exact hck
   let X:Nat→Nat→Int:=fun j k=>match W.cell? (a.add (j*m+k)) with | some (.int .i64 z)=>z | _=>0
   have hX : ∀ j k,j<len→k<m→W.cell? (a.add (j*m+k))=some (.int .i64 (X j k))∧inR .i64 (X j k)=true:=by
    intro j k hj hk
    obtain ⟨z,h1,h2⟩:=cells j k hj hk
    have:X j k=z:=by simp only [X];rw [h1]
    rw [this];exact ⟨h1,h2⟩
   have h00:=(hX 0 0 (by omega) hm).1
   have ea:a.add (0*m+0)=a:=by simp [Addr.add]
   rw [ea] at h00
   obtain ⟨b,off,spot⟩:=a
   have hspot:spot=none∧ ∃ cs el fr,W.heap[b]? =some (.cells cs el fr):=by
    unfold World.cell? at h00
    split at h00
    ·rename_i c el fr hb
     cases spot with
     | none=>exact ⟨rfl,c,el,fr,hb⟩
     | some s=>simp at h00
    ·cases h00
   obtain ⟨rfl,cs,el,fr,hb⟩:=hspot
   have at_ : ∀ j k,j<len→k<m→cs.toList[off+(j*m+k)]? =some (.int .i64 (X j k)):=by
    intro j k hj hk
    have:=(hX j k hj hk).1
    have e1:(Addr.mk b off none).add (j*m+k)=⟨b,off+(j*m+k),none⟩:=by
     unfold Addr.add
     by_cases hz:j*m+k=0
     ·rw [if_pos hz,hz];rfl
     ·rw [if_neg hz]
    rw [e1] at this
    simp only [World.cell?,hb,Option.isSome_none,Bool.false_eq_true,if_false] at this
    simpa using this
   have hlast:off+len*m≤cs.toList.length:=by
    have:=(List.getElem?_eq_some_iff.1 (at_ (len-1) (m-1) (by omega) (by omega))).1
    have e2:(len-1)*m+m=len*m:=by
     obtain ⟨l,rfl⟩: ∃ l,len=l+1:=⟨len-1,by omega⟩
     rw [Nat.add_sub_cancel,Nat.succ_mul]
    omega
   refine ⟨len,X,?_,fun j hj k hk=>(hX j k hj hk).2⟩
   simp only [VR]
   refine .inr ⟨b,off,cap,⟨b,off,none⟩,fun j=>(cs.toList.drop (off+j*m)).take m,rfl,hl,fun _=>⟨rfl,⟨?_,cs.toList.take off,cs.toList.drop (off+len*m),by rw [List.length_take];omega,?_⟩,fun j hj=>?_⟩⟩
   ·intro u hu
    obtain ⟨j,hj,hu⟩:=List.mem_flatMap.1 hu
    have hj:=List.mem_range.1 hj
    obtain ⟨k,hk⟩:=List.mem_iff_getElem?.1 hu
    have hkm:k<m:=by
     have:=(List.getElem?_eq_some_iff.1 hk).1
     simp at this;omega
    rw [List.getElem?_take_of_lt hkm,List.getElem?_drop,Nat.add_assoc,at_ j k hj hkm] at hk
    cases hk;rfl
   ·rw [hρ b cs el fr hb,flat_cut hlast,←List.drop_drop]
    rw [List.append_assoc,List.take_append_drop,List.take_append_drop]
   ·have hlen:((cs.toList.drop (off+j*m)).take m).length=m:=by
     have:j*m+m≤len*m:=by
      have:=Nat.mul_le_mul_right m (show j+1≤len from hj)
      rw [Nat.succ_mul] at this;exact this
     simp only [List.length_take,List.length_drop];omega
    refine ⟨hlen,ints_cell hlen fun k hk=>?_⟩
    rw [List.getElem?_take_of_lt hk,List.getElem?_drop,Nat.add_assoc]
    exact at_ j k hj hk
theorem all_stays {W':World} {sp':Nat→Bool} {T:TypeId→Prop} (K:Kids P T) (hz : ∀ {t e:TypeId},T t→P.underlying t=some (.slice e)→0<P.cellsOf e): ∀ {ts:List TypeId} {vs:List Value} {ds:List (DataW H)} {ps:List MemPlace},(∀ t∈ts,T t)→
  DataW.TrodAll enc P W 0 (fun _=>true) true ts vs ds ps→(∀ p∈ps,W.sameAt W' p)→(∀ p∈ps,sp' p.block=true)→DataW.TrodAll enc P W' 0 sp' true ts vs ds ps
 | [],[],[],_,_,h,_,_=>h
 | _::_,_::_,_::_,_,hT,⟨p,q,⟨n,h1⟩,h2,e⟩,hs,hb=>⟨p,q,⟨n,DataW.trod_stays K hz (fun h=>by cases h) (hT _ (List.mem_cons.2 (.inl rfl))) h1 (fun x hx=>hs x (by rw [e];exact List.mem_append_left _ hx)) (fun x hx=>hb x (by rw [e];exact List.mem_append_left _ hx))⟩,
   all_stays K hz (fun t ht=>hT t (List.mem_cons.2 (.inr ht))) h2 (fun x hx=>hs x (by rw [e];exact List.mem_append_right _ hx)) (fun x hx=>hb x (by rw [e];exact List.mem_append_right _ hx)),e⟩
def OldKept (W W':World): Prop:=W'.os=W.os∧W'.output=W.output∧ ∀ i,i<W.heap.size→W'.heap[i]? =W.heap[i]?
theorem OldKept.but {W':World} (h:OldKept W W') (may:MemPlace→Prop): W.keptBut W' may:=by
 refine ⟨h.1,h.2.1,fun i hi=>?_⟩
 rw [h.2.2 i hi]
 cases hw:W.heap[i]? with
 | none=>trivial
 | some o=>cases o<;>first | exact ⟨rfl,rfl,rfl,fun _ _=>rfl⟩ | exact .inr ⟨rfl,rfl⟩ | rfl
theorem OldKept.same {W':World} (h:OldKept W W') {p:MemPlace} (hp:p.block<W.heap.size): W.sameAt W' p:=by
 cases p with
 | cell b off=>show W'.cell? _=W.cell? _;unfold World.cell?;rw [h.2.2 b hp]
 | map b=>exact h.2.2 b hp
theorem OldKept.frozen {W':World} (h:OldKept W W') {b off:Nat} (hp:b<W.heap.size): W'.frozen? ⟨b,off,none⟩=W.frozen? ⟨b,off,none⟩:=by
 unfold World.frozen?
 rw [h.2.2 b hp]
theorem post_kept {W':World} {f:Func} {s:ChangeSpec} {apart fresh handsOn again:Bool} {args:Array Value} {v:Value} {ds gs:List (DataW H)} {before:List MemPlace} {T:TypeId→Prop} (K:Kids P T) (hz : ∀ {t e:TypeId},T t→P.underlying t=some (.slice e)→0<P.cellsOf e) (hT : ∀ t∈f.params.toList,T t)
  (hvars:s.vars=[]) (hW:DataW.Whole enc P f.params.toList s.vars apart W args.toList ds gs before) (hk:OldKept W W')
  (hres : ∀ (b:Nat) (sp:Nat→Bool) (hd:Bool),DataW.TrodAll enc P W' b sp hd f.resultTypes.toList (v.resultList f.resultTypes.size) (s.fn H (ds++gs)).results [])
  (hsa:(s.fn H (ds++gs)).args=ds) (hsv:(s.fn H (ds++gs)).vars=gs)
  (hok : ∀ (j:Nat) (t:TypeId) (r:Value),f.resultTypes[j]? =some t→(v.resultList f.resultTypes.size)[j]? =some r→Value.okWide P W' .any 0 t r):
  s.post enc P f apart fresh handsOn again W args v W':=by
 have hlt:=hW.lt
 have hW0:=hW
 obtain ⟨pa,pv,hA,hV,hps,hfz,hn⟩:=hW
 rw [hvars] at hV
 obtain ⟨rfl,rfl⟩:=trodVars_none hV
 rw [List.append_nil] at hps
 subst hps
 have hargs : ∀ sp:Nat→Bool,(∀ p∈before,sp p.block=true)→DataW.TrodAll enc P W' 0 sp true f.params.toList args.toList (s.fn H (ds++[])).args before:=fun sp hs=>by
  rw [hsa];exact all_stays K hz hT hA (fun p hp=>hk.same (hlt p hp)) hs
 have hvs : ∀ sp:Nat→Bool,DataW.TrodVars enc P W' sp s.vars (s.fn H (ds++[])).vars []:=fun sp=>by rw [hvars,hsv];exact rfl
 have hold : ∀ p∈before,(fun b=>decide (b<W.heap.size)) p.block=true:=fun p hp=>by simpa using hlt p hp
 refine ⟨ds,[],before,[],before,[],hW0,hres _ _ _,hargs _ hold,hvs _,hk.but _,fun _=>?_⟩
 refine ⟨hok,_,_,([]++before)++[],⟨[]++before,[],trodAll_append (hargs _ (fun _ _=>rfl)) (hres _ _ _),hvs _,rfl,?_,?_⟩,?_⟩
 ·intro b off hp
  have hp':MemPlace.cell b off∈before:=by simpa using hp
  rw [hk.frozen (b:=b) (off:=off) (hlt _ hp')]
  exact hfz b off hp'
 ·intro ha
  simpa using hn ha
 ·intro p hp _
  simpa using hp
end
end Go.Sx
end
section
set_option maxRecDepth 1000000
namespace Go.Sx
open Go
theorem now_mem {kd:TypeDesc} {kv:Value}: ∀ {l:List MapEntry} {j i:Nat} {v:Value},Instr.findNow kd kv l j=some (some (i,v))→ ∃ x∈l,Instr.sameNow kd kv x.key=some true∧v=x.val
 | [],_,_,_,h=>by simp [Instr.findNow] at h
 | x::l,j,i,v,h=>by
  unfold Instr.findNow at h
  split at h
  ·rename_i hs
   simp only [Option.some.injEq,Prod.mk.injEq] at h
   exact ⟨x,List.mem_cons_self,hs,h.2.symm⟩
  ·obtain ⟨y,h1,h2,h3⟩:=now_mem h
   exact ⟨y,List.mem_cons_of_mem _ h1,h2,h3⟩
  ·cases h
theorem now_int {kd:TypeDesc} {kv:Value} {n:Int} (h:Instr.sameNow kd kv (.int .i64 n)=some true): ∃ q,kd= .int q∧kv= .int .i64 n:=by
 cases kd<;>cases kv<;>simp [Instr.sameNow] at h
 rename_i q k a
 obtain ⟨rfl,rfl⟩:=h
 exact ⟨q,rfl,rfl⟩
theorem now_found {q:IntKind} {n:Int} {u:Value}: ∀ {l:List MapEntry} (_ : ∀ x∈l,∃ m,x.key= .int .i64 m) (_ : ∀ x∈l,x.key= .int .i64 n→x.val=u) (j:Nat) (_ : ∃ x∈l,x.key= .int .i64 n),∃ i,Instr.findNow (.int q) (.int .i64 n) l j=some (some (i,u))
 | [],_,_,_,h=>by obtain ⟨x,hx,_⟩:=h;cases hx
 | x::l,h1,h2,j,h3=>by
  obtain ⟨m,hm⟩:=h1 x List.mem_cons_self
  unfold Instr.findNow
  by_cases e:n=m
  ·subst e
   rw [hm]
   simp only [Instr.sameNow,if_true,beq_self_eq_true]
   exact ⟨j,by rw [h2 x List.mem_cons_self hm]⟩
  ·rw [hm]
   have:(n==m)=false:=by simpa using e
   simp only [Instr.sameNow,if_true,this]
   refine now_found (fun y hy=>h1 y (List.mem_cons_of_mem _ hy)) (fun y hy=>h2 y (List.mem_cons_of_mem _ hy)) (j+1) ?_
   obtain ⟨y,hy,hk⟩:=h3
   rcases List.mem_cons.1 hy with rfl | hy
   ·rw [hm] at hk;cases hk;exact absurd rfl e
   ·exact ⟨y,hy,hk⟩
theorem same_found {ms' ms:List MapEntry} (hsub : ∀ x∈ms',x∈ms) (hk : ∀ x∈ms,∃ n,x.key= .int .i64 n) (hd : ∀ x∈ms,∀ y∈ms,x.key=y.key→x.val=y.val): SameFound ms' ms:=by
 intro kd kv i v h
 obtain ⟨x,h1,h2,rfl⟩:=now_mem h
 obtain ⟨n,hn⟩:=hk x (hsub x h1)
 rw [hn] at h2
 obtain ⟨q,rfl,rfl⟩:=now_int h2
 exact now_found hk (fun y hy e=>hd y hy x (hsub x h1) (by rw [e,hn])) 0 ⟨x,hsub x h1,hn⟩
theorem five_rel {ms:List MapEntry} {V:Nat→Value} (h1 : ∀ x∈ms,∃ i:Nat,i<5∧x.key= .int .i64 ((i:Int)+1)∧x.val=V i) (h2 : ∀ i:Nat,i<5→ ∃ x∈ms,x.key= .int .i64 ((i:Int)+1)):
  ∃ ms':List MapEntry,ms'.map (·.key)=[.int .i64 1,.int .i64 2,.int .i64 3,.int .i64 4,.int .i64 5]∧ms'.map (·.val)=[V 0,V 1,V 2,V 3,V 4]∧SameFound ms' ms:=by
 have val : ∀ i:Nat,i<5→ ∀ x∈ms,x.key= .int .i64 ((i:Int)+1)→x.val=V i:=fun i hi x hx e=>by
  obtain ⟨j,_,h3,h4⟩:=h1 x hx
  rw [h3] at e
  have:(j:Int)+1=(i:Int)+1:=by injection e
  have:j=i:=by omega
  rw [h4,this]
 obtain ⟨x0,m0,k0⟩:=h2 0 (by omega)
 obtain ⟨x1,m1,k1⟩:=h2 1 (by omega)
 obtain ⟨x2,m2,k2⟩:=h2 2 (by omega)
 obtain ⟨x3,m3,k3⟩:=h2 3 (by omega)
 obtain ⟨x4,m4,k4⟩:=h2 4 (by omega)
 refine ⟨[x0,x1,x2,x3,x4],?_,?_,same_found (fun x hx=>?_) (fun x hx=>?_) fun x hx y hy e=>?_⟩
 ·simp only [List.map_cons,List.map_nil,k0,k1,k2,k3,k4];rfl
 ·simp only [List.map_cons,List.map_nil,val 0 (by omega) x0 m0 k0,val 1 (by omega) x1 m1 k1,val 2 (by omega) x2 m2 k2,val 3 (by omega) x3 m3 k3,val 4 (by omega) x4 m4 k4]
 ·simp only [List.mem_cons,List.not_mem_nil,or_false] at hx
  rcases hx with rfl | rfl | rfl | rfl | rfl<;>assumption
 ·obtain ⟨i,_,h3,_⟩:=h1 x hx
  exact ⟨_,h3⟩
 ·obtain ⟨i,hi,h3,h4⟩:=h1 x hx
  rw [h4,val i hi y hy (by rw [←e,h3])]
end Go.Sx
end
section
set_option maxRecDepth 1000000
namespace Go.Sx
open Go Go.WideShapes
theorem key_int {P:Program} {k:TypeId} (hk:P.underlying k=some (.int .i64)) {v:Value} {n:Int} (h:keyOf P k v=some (.int .i64 n)): v= .int .i64 n:=by
 unfold keyOf at h
 rw [hk] at h
 unfold mapKey at h
 rw [hk] at h
 cases v<;>simp at h
 obtain ⟨⟨rfl,_⟩,rfl⟩:=h
 rfl
theorem val_fn {P:Program} {W:World} {e:TypeId} {f0:Field} {ps rs:Array TypeId} {va:Bool} {n:Nat} {sp:Nat→Bool} {v:Value} {z:DataW (List UInt8)×List MemPlace} {b:UInt8} {r:List UInt8} {f:FuncId}
  (he:P.underlying e=some (.struct #[f0])) (h0:f0.offset=0) (hce:P.cellsOf e=1) (hcf:P.cellsOf f0.type=1) (hf:P.underlying f0.type=some (.func ps rs va))
  (hone:((List.range P.funcs.size).filter fun f=>(P.funcs[f]?).any (·.name.toUTF8.data.toList==b::r))=[f])
  (h:WideElems.elemAt (funcToken P) P W 0 sp true n e v=some z) (hz:z.1= .agg [.held (b::r)]): v= .agg #[.func (.func f) #[] #[]]:=by
 unfold WideElems.elemAt at h
 split at h
 ·rename_i hform
  obtain ⟨xs,m,_,hx,hl,hxl,hel⟩:=DataW.trod_struct he h
  rw [hx] at hz
  simp only [DataW.agg.injEq] at hz
  match xs,hxl,hz with
  | [x0],_,hz=>
   simp only [List.map_cons,List.map_nil,List.cons.injEq,and_true] at hz
   have h2:=hel 0 f0 rfl
   rw [h0,hcf,List.drop_zero] at h2
   rw [hce] at hl
   obtain ⟨c,hc⟩: ∃ c,v.cells.toList=[c]:=by
    match hv:v.cells.toList,hl with
    | [c],_=>exact ⟨c,rfl⟩
   rw [hc] at h2
   simp only [List.take_succ_cons,List.take_zero,List.getElem?_cons_zero] at h2
   obtain ⟨x1,x2⟩:=x0
   simp only at hz
   subst hz
   have hcv:=func_of_trod hf hone h2
   subst hcv
   unfold Value.formed at hform
   cases v with
   | agg cs=>
    have:cs= #[.func (.func f) #[] #[]]:=by
     apply Array.ext'
     exact hc
    rw [this]
   | _=>simp [he] at hform
 ·cases h
theorem open_five {P:Program} {W:World} {t k e:TypeId} {f0:Field} {ps rs:Array TypeId} {va:Bool} {fuel:Nat} {cs:List Value} {p:List MemPlace} {N:Nat→UInt8×List UInt8} {F:Nat→FuncId}
  (ht:P.underlying t=some (.map k e)) (hk:P.underlying k=some (.int .i64)) (he:P.underlying e=some (.struct #[f0])) (h0:f0.offset=0) (hce:P.cellsOf e=1) (hcf:P.cellsOf f0.type=1) (hf:P.underlying f0.type=some (.func ps rs va))
  (hone : ∀ i,i<5→((List.range P.funcs.size).filter fun f=>(P.funcs[f]?).any (·.name.toUTF8.data.toList==(N i).1::(N i).2))=[F i])
  (h:DataW.trod (funcToken P) P W 0 (fun _=>true) true fuel t cs=some (.map [(.int .i64 1,.agg [.held ((N 0).1::(N 0).2)]),(.int .i64 2,.agg [.held ((N 1).1::(N 1).2)]),(.int .i64 3,.agg [.held ((N 2).1::(N 2).2)]),(.int .i64 4,.agg [.held ((N 3).1::(N 3).2)]),(.int .i64 5,.agg [.held ((N 4).1::(N 4).2)])],p)):
  ∃ b ms clock,cs=[.map (some b)]∧W.heap[b]? =some (.map ms clock)∧(∀ x∈ms.toList,∃ i:Nat,i<5∧x.key= .int .i64 ((i:Int)+1)∧x.val= .agg #[.func (.func (F i)) #[] #[]])∧ ∀ i:Nat,i<5→ ∃ x∈ms.toList,x.key= .int .i64 ((i:Int)+1):=by
 rcases WideElems.open_map ht h with ⟨_,hx⟩ | ⟨b,es,clock,n,_,hcs,hb,_,fit,hx⟩
 ·simp at hx
 ·simp only [Prod.mk.injEq,DataW.map.injEq] at hx
  obtain ⟨hL,_⟩:=hx
  have perm:=sorted_perm (es.toList.map (WideElems.rg P k (WideElems.elemAt (funcToken P) P W 0 (fun _=>true) true n e)))
  rw [←hL] at perm
  refine ⟨b,es,clock,hcs,hb,fun x hx=>?_,fun i hi=>?_⟩
  ·obtain ⟨y,hy⟩:=fit.reads x hx
   have hm:=perm.mem_iff.2 (List.mem_map.2 ⟨x,hx,WideElems.rg_of hy⟩)
   obtain ⟨z,hz,hyz⟩:=WideElems.rd_val hy
   have hkey:=WideElems.rd_key hy
   simp only [List.mem_cons,List.not_mem_nil,or_false] at hm
   rcases hm with rfl | rfl | rfl | rfl | rfl
   ·exact ⟨0,by omega,key_int hk hkey,val_fn he h0 hce hcf hf (hone 0 (by omega)) hz hyz.symm⟩
   ·exact ⟨1,by omega,key_int hk hkey,val_fn he h0 hce hcf hf (hone 1 (by omega)) hz hyz.symm⟩
   ·exact ⟨2,by omega,key_int hk hkey,val_fn he h0 hce hcf hf (hone 2 (by omega)) hz hyz.symm⟩
   ·exact ⟨3,by omega,key_int hk hkey,val_fn he h0 hce hcf hf (hone 3 (by omega)) hz hyz.symm⟩
   ·exact ⟨4,by omega,key_int hk hkey,val_fn he h0 hce hcf hf (hone 4 (by omega)) hz hyz.symm⟩
  ·have back : ∀ y∈[((.int .i64 1:Lit),(.agg [.held ((N 0).1::(N 0).2)]: DataW (List UInt8))),(.int .i64 2,.agg [.held ((N 1).1::(N 1).2)]),(.int .i64 3,.agg [.held ((N 2).1::(N 2).2)]),(.int .i64 4,.agg [.held ((N 3).1::(N 3).2)]),(.int .i64 5,.agg [.held ((N 4).1::(N 4).2)])],∃ x∈es.toList,keyOf P k x.key=some y.1:=fun y hy=>by
    obtain ⟨x,hx,hxy⟩:=List.mem_map.1 (perm.mem_iff.1 hy)
    obtain ⟨y',hy'⟩:=fit.reads x hx
    rw [WideElems.rg_of hy'] at hxy
    subst hxy
    exact ⟨x,hx,WideElems.rd_key hy'⟩
   have fin : ∀ n d,((.int .i64 n:Lit),(d:DataW (List UInt8)))∈[((.int .i64 1:Lit),(.agg [.held ((N 0).1::(N 0).2)]: DataW (List UInt8))),(.int .i64 2,.agg [.held ((N 1).1::(N 1).2)]),(.int .i64 3,.agg [.held ((N 2).1::(N 2).2)]),(.int .i64 4,.agg [.held ((N 3).1::(N 3).2)]),(.int .i64 5,.agg [.held ((N 4).1::(N 4).2)])]→ ∃ x∈es.toList,x.key= .int .i64 n:=fun n d hm=>by
    obtain ⟨x,hx,hk1⟩:=back _ hm
    exact ⟨x,hx,key_int hk hk1⟩
   match i,hi with
   | 0,_=>exact fin 1 (.agg [.held ((N 0).1::(N 0).2)]) (by simp)
   | 1,_=>exact fin 2 (.agg [.held ((N 1).1::(N 1).2)]) (by simp)
   | 2,_=>exact fin 3 (.agg [.held ((N 2).1::(N 2).2)]) (by simp)
   | 3,_=>exact fin 4 (.agg [.held ((N 3).1::(N 3).2)]) (by simp)
   | 4,_=>exact fin 5 (.agg [.held ((N 4).1::(N 4).2)]) (by simp)
   | i+5,h=>exact absurd h (by omega)
end Go.Sx
end
section
set_option maxRecDepth 1000000
namespace Go.Sx
open Go Go.Deep
theorem fslice_of {ρ:Env} {W:World} {a:Addr} {len cap m:Nat} {f:Nat→List AV} (hρ:FzAll ρ W) (hm:0<m) (hl:len≤cap)
  (hrow : ∀ j,j<len→ ∃ us:List Value,us.length=m∧(∀ u∈us,u.oneCell'=true)∧VRs ρ.bare (f j) us∧ ∀ k,k<m→W.cell? (a.add (j*m+k))=us[k]?): VR ρ (.fslice len m f) (.slice (some a) len cap):=by
 by_cases hz:len=0
 ·subst hz
  simp only [VR]
  exact .inr ⟨0,0,cap,a,fun _=>[],rfl,hl,fun h=>absurd h (Nat.lt_irrefl _)⟩
 ·obtain ⟨us0,l0,_,_,c0⟩:=hrow 0 (by omega)
  have h00:=c0 0 hm
  have ea:a.add (0*m+0)=a:=by simp [Addr.add]
  rw [ea] at h00
  obtain ⟨b,off,spot⟩:=a
  have hspot:spot=none∧ ∃ cs el fr,W.heap[b]? =some (.cells cs el fr):=by
   have hsome:us0[0]? ≠none:=by rw [List.getElem?_eq_getElem (by omega)];exact fun h=>by cases h
   unfold World.cell? at h00
   split at h00
   ·rename_i c el fr hb
    cases spot with
    | none=>exact ⟨rfl,c,el,fr,hb⟩
    | some s=>simp at h00;exact absurd h00.symm (by simpa using hsome)
   ·exact absurd h00.symm hsome
  obtain ⟨rfl,cs,el,fr,hb⟩:=hspot
  have e1 : ∀ q,(Addr.mk b off none).add q=⟨b,off+q,none⟩:=fun q=>by
   unfold Addr.add
   by_cases hz:q=0
   ·rw [if_pos hz,hz];rfl
   ·rw [if_neg hz]
  have row : ∀ j,j<len→ ∃ us:List Value,us.length=m∧(∀ u∈us,u.oneCell'=true)∧VRs ρ.bare (f j) us∧off+j*m+m≤cs.toList.length∧(cs.toList.drop (off+j*m)).take m=us:=by
   intro j hj
   obtain ⟨us,h1,h2,h3,h4⟩:=hrow j hj
   have at_ : ∀ k,k<m→cs.toList[off+j*m+k]? =us[k]? :=fun k hk=>by
    have:=h4 k hk
    rw [e1] at this
    simp only [World.cell?,hb,Option.isSome_none,Bool.false_eq_true,if_false] at this
    rw [←this,Nat.add_assoc]
    simp
   have hlast:off+j*m+m≤cs.toList.length:=by
    have:=at_ (m-1) (by omega)
    rw [List.getElem?_eq_getElem (show m-1<us.length by omega)] at this
    have:=(List.getElem?_eq_some_iff.1 this).1
    omega
   refine ⟨us,h1,h2,h3,hlast,?_⟩
   apply List.ext_getElem?
   intro k
   by_cases hk:k<m
   ·rw [List.getElem?_take_of_lt hk,List.getElem?_drop,at_ k hk]
   ·rw [List.getElem?_eq_none (by rw [List.length_take];omega),List.getElem?_eq_none (by omega)]
  have hall:off+len*m≤cs.toList.length:=by
   obtain ⟨_,_,_,_,h,_⟩:=row (len-1) (by omega)
   have e2:(len-1)*m+m=len*m:=by
    obtain ⟨l,rfl⟩: ∃ l,len=l+1:=⟨len-1,by omega⟩
    rw [Nat.add_sub_cancel,Nat.succ_mul]
   omega
  simp only [VR]
  refine .inr ⟨b,off,cap,⟨b,off,none⟩,fun j=>(cs.toList.drop (off+j*m)).take m,rfl,hl,fun _=>⟨rfl,⟨?_,cs.toList.take off,cs.toList.drop (off+len*m),by rw [List.length_take];omega,?_⟩,fun j hj=>?_⟩⟩
  ·intro u hu
   obtain ⟨j,hj,hu⟩:=List.mem_flatMap.1 hu
   obtain ⟨us,_,h2,_,_,h5⟩:=row j (List.mem_range.1 hj)
   simp only [h5] at hu
   exact h2 u hu
  ·rw [hρ b cs el fr hb,flat_cut hall,←List.drop_drop]
   rw [List.append_assoc,List.take_append_drop,List.take_append_drop]
  ·obtain ⟨us,h1,_,h3,_,h5⟩:=row j hj
   simp only [h5]
   exact ⟨h1,h3⟩
theorem str_of {H:Type} {enc:TypeId×Value→H} {P:Program} {W:World} {sp:Nat→Bool} {held:Bool} {fuel:Nat} {t:TypeId} {c:Value} {s:List UInt8} {p:List MemPlace} (ht:P.underlying t=some .string)
  (h:DataW.trod enc P W 0 sp held fuel t [c]=some (.lit (.string s),p)): c= .string ⟨s.toArray⟩:=by
 obtain ⟨b,h1,h2,_⟩:=DataW.trod_string ht h
 simp only [Prod.mk.injEq,DataW.lit.injEq,Lit.string.injEq] at h2
 simp only [List.cons.injEq,and_true] at h1
 rw [h1,h2.1]
theorem nil_of {H:Type} {enc:TypeId×Value→H} {P:Program} {W:World} {sp:Nat→Bool} {held:Bool} {fuel:Nat} {t:TypeId} {ps rs:Array TypeId} {va:Bool} {c:Value} {p:List MemPlace} (ht:P.underlying t=some (.func ps rs va))
  (h:DataW.trod enc P W 0 sp held fuel t [c]=some (.nil,p)): c= .nilFunc:=by
 cases fuel with
 | zero=>simp [DataW.trod] at h
 | succ n=>cases c<;>simp [DataW.trod,ht] at h<;>rfl
theorem row_of {ρ:Env} {P:Program} {W:World} {e:TypeId} {f0 f1:Field} {sp:Nat→Bool} {fuel:Nat} {cs:List Value} {x:DataW (List UInt8)×List MemPlace} {d0 d1:DataW (List UInt8)} {a0 a1:AV} (he:P.underlying e=some (.struct #[f0,f1])) (o0:f0.offset=0) (o1:f1.offset=1) (c0:P.cellsOf f0.type=1) (c1:P.cellsOf f1.type=1) (ce:P.cellsOf e=2)
  (h:DataW.trod (funcToken P) P W 0 sp true fuel e cs=some x) (hx:x.1= .agg [d0,d1])
  (h0 : ∀ n c p,DataW.trod (funcToken P) P W 0 sp true n f0.type [c]=some (d0,p)→VR ρ a0 c∧c.oneCell'=true) (h1 : ∀ n c p,DataW.trod (funcToken P) P W 0 sp true n f1.type [c]=some (d1,p)→VR ρ a1 c∧c.oneCell'=true):
  ∃ us:List Value,cs=us∧us.length=2∧(∀ u∈us,u.oneCell'=true)∧VRs ρ [a0,a1] us:=by
 obtain ⟨xs,n,_,hxx,hl,hxl,hel⟩:=DataW.trod_struct he h
 rw [hxx] at hx
 simp only [DataW.agg.injEq] at hx
 rw [ce] at hl
 match xs,hxl,hx with
 | [x0,x1],_,hx=>
  match cs,hl with
  | [u0,u1],_=>
   simp only [List.map_cons,List.map_nil,List.cons.injEq,and_true] at hx
   have g0:=hel 0 f0 rfl
   have g1:=hel 1 f1 rfl
   rw [o0,c0] at g0
   rw [o1,c1] at g1
   simp only [List.drop_zero,List.take_succ_cons,List.take_zero,List.getElem?_cons_zero] at g0
   simp only [List.drop_succ_cons,List.drop_zero,List.take_succ_cons,List.take_zero,List.getElem?_cons_succ,List.getElem?_cons_zero] at g1
   obtain ⟨x0,p0⟩:=x0
   obtain ⟨x1,p1⟩:=x1
   obtain ⟨rfl,rfl⟩:=hx
   obtain ⟨k1,k2⟩:=h0 _ _ _ g0
   obtain ⟨k3,k4⟩:=h1 _ _ _ g1
   refine ⟨[u0,u1],rfl,rfl,fun u hu=>?_,⟨u0,[u1],rfl,k1,u1,[],rfl,k3,rfl⟩⟩
   simp only [List.mem_cons,List.not_mem_nil,or_false] at hu
   rcases hu with rfl | rfl
   ·exact k2
   ·exact k4
theorem fn_of {ρ:Env} {f:FuncId} {c:Value} (h:c= .func (.func f) #[] #[]): VR ρ (.fn f [] []) c∧c.oneCell'=true:=by
 subst h
 refine ⟨?_,rfl⟩
 simp only [VR]
 exact ⟨[],[],rfl,rfl,rfl⟩
theorem s_of {ρ:Env} {s:List UInt8} {c:Value} (h:c= .string ⟨s.toArray⟩): VR ρ (.str s) c∧c.oneCell'=true:=by
 subst h
 exact ⟨by simp only [VR],rfl⟩
end Go.Sx
end
