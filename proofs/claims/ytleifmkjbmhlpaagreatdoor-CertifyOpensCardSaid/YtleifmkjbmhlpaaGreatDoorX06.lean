/- CertifyOpens is proved, part 6. -/
import Derived.Test.YtleifmkjbmhlpaaGreatDoorX05
import Derived.RangeFuncRecord
import Derived.ScopeJumps
import Derived.Lib.UnsafeStr
import Derived.Maps.RangeRun
set_option linter.unusedVariables false
set_option linter.unusedSimpArgs false
set_option linter.unusedSectionVars false
section
namespace Go.Sx
open Go
section
variable {R:Type} {X:RI R} {sem:R→Prop} (hX:X.Ok sem) {I:Info} {P:Program} (hI:I.Ok P)
def amupd (X:RI R) (over:Bool) (eq:AV→AV→Option Bool) (k v:AV) (K:List (AV×AV)→R) (pre:List (AV×AV)): List (AV×AV)→R
 | []=>K (pre++[(k,v)])
 | (k',v')::es=>match eq k k' with
  | some b=>X.cond b (fun _=>match over with | true=>K (pre++(k,v)::es) | false=>X.fail) (fun _=>amupd X over eq k v K (pre++[(k',v')]) es)
  | none=>X.fail
theorem keyOk_any (I:Info) (kd:TypeDesc): keyOk I kd .any=false:=by
 cases kd<;>rfl
def isArray:TypeDesc→Bool
 | .array _ _=>true
 | _=>false
def amapUpdate (X:RI R) (I:Info) (t:TypeId) (m k v:AV) (H:AH) (K:AH→R): R :=
 match I.und t with
 | some (.map kt _)=>
  match I.und kt,m with
  | some kd,.map (some l)=>
   match H.get l,keyOk I kd k with
   | .map es,true=>match isMark es with | true=>X.fail | false=>amupd X (!isArray kd) (keq I kt kd) k v (fun es'=>K (H.set l (.map es'))) [] es
   | _,_=>X.fail
  | _,_=>X.fail
 | _=>X.fail
theorem amupd_sem {over:Bool} {eq:AV→AV→Option Bool} {k v:AV} {K:List (AV×AV)→R}: ∀ {es pre:List (AV×AV)},sem (amupd X over eq k v K pre es)→X.Ok sem→
  (sem (K (pre++es++[(k,v)]))∧asel eq k es=some none)∨ ∃ i u,over=true∧i<es.length∧sem (K (pre++es.set i (k,v)))∧asel eq k es=some (some (i,u))
 | [],pre,h,_=> .inl ⟨by simpa [amupd] using h,rfl⟩
 | (k',v')::es,pre,h,hX=>by
  simp only [amupd] at h
  split at h
  ·rename_i b hb
   have hc:=hX.cond _ _ _ h
   cases b with
   | true=>
    simp only [if_true] at hc
    cases over with
    | true=>exact .inr ⟨0,v',rfl,by simp,by simpa using hc,by simp [asel,hb]⟩
    | false=>exact absurd hc hX.fail
   | false=>
    simp only [Bool.false_eq_true,if_false] at hc
    rcases amupd_sem hc hX with ⟨h1,h2⟩ | ⟨i,u,h0,h1,h2,h3⟩
    ·exact .inl ⟨by simpa using h1,by simp [asel,hb,h2]⟩
    ·exact .inr ⟨i+1,u,h0,by simpa using h1,by simpa using h2,by simp [asel,hb,h3]⟩
  ·exact absurd h hX.fail
theorem asel_same {kd:TypeDesc} {k:AV} {ρ:Env} {kv:Value} (hk:VR ρ k kv): ∀ {es:List (AV×AV)} {ms:List MapEntry} {i:Nat} {v:AV},asel (asame kd) k es=some (some (i,v))→
  VRs ρ (es.map (·.1)) (ms.map (·.key))→ ∃ m,ms[i]? =some m∧Instr.sameNow kd kv m.key=some true
 | [],ms,i,v,h,h1=>by simp [asel] at h
 | (k',v')::es,[],i,v,h,h1=>by simp [VRs] at h1
 | (k',v')::es,m::ms,i,v,h,h1=>by
  simp only [List.map_cons,VRs.cons_iff] at h1
  simp only [asel] at h
  split at h
  ·rename_i hb
   cases h
   exact ⟨m,rfl,asame_ok hb hk h1.1⟩
  ·split at h
   ·rename_i i' v2 hi
    cases h
    obtain ⟨m',h3,h4⟩:=asel_same hk hi h1.2
    exact ⟨m',by simpa using h3,h4⟩
   ·rename_i hno
    exact absurd h (hno _ _)
  ·cases h
theorem sameBits_of_now {kd:TypeDesc} {a b:Value} (h:Instr.sameNow kd a b=some true) (n:Nat): Instr.sameBits n b a=true:=by
 unfold Instr.sameNow at h
 split at h
 ·split at h
  ·rename_i k1 x k2 y hk
   subst hk
   simp at h
   subst h
   cases n<;>simp [Instr.sameBits]
  ·cases h
 ·rename_i a b
  have h':(a==b)=true:=Option.some.inj h
  have:(b==a)=true:=by
   rw [beq_toListBytes] at h'⊢
   simp only [beq_iff_eq] at h'⊢
   exact h'.symm
  cases n<;>simp only [Instr.sameBits,this]
 ·simp at h;subst h;cases n<;>simp [Instr.sameBits]
 ·cases h
include hX hI in
theorem amapUpdate_ok {t:TypeId} {m k v:AV} {H:AH} {K:AH→R} (h:sem (amapUpdate X I t m k v H K)):
  ∃ H',sem (K H')∧ ∀ c ρ w mv kv vv,VR ρ m mv→VR ρ k kv→VR ρ v vv→Rel c ρ H w→ ∃ w',(Instr.mapUpdate t mv kv vv).run P w= .ok () w'∧Rel c ρ H' w':=by
 unfold amapUpdate at h
 split at h
 ·rename_i kt et hd
  split at h
  ·rename_i kd l hkd
   split at h
   ·rename_i es hes hkind
    split at h
    ·exact absurd h hX.fail
    rename_i hmk
    have hkany:k≠ .any:=fun e=>by subst e;rw [keyOk_any] at hkind;cases hkind
    have key : ∀ r:Option (Nat×AV),asel (keq I kt kd) k es=some r→(∀ p,r=some p→isArray kd=false)→ ∀ c ρ w mv kv vv,VR ρ (.map (some l)) mv→VR ρ k kv→VR ρ v vv→Rel c ρ H w→
      ∃ w',(Instr.mapUpdate t mv kv vv).run P w= .ok () w'∧Rel c ρ (H.set l (.map (match r with | none=>es++[(k,v)] | some p=>es.set p.1 (k,v)))) w':=by
     intro r hr0 hnar c ρ w mv kv vv hm hk hv hr
     simp only [VR] at hm
     obtain ⟨b,N,hbb,rfl⟩:=hm
     have hblk:=hr.blk l
     rw [hes,hbb] at hblk
     obtain ⟨b',N',ms,clock,e1,e2,e34,hemp⟩:=hblk
     obtain ⟨e3,e4⟩:=e34.plain hmk
     cases e1
     have hg:(getObj b).run P w= .ok (.map ms.toArray clock) w:=by simp [getObj,Sem.run,e2]
     have hck:=run_checkKey (P:=P) hI hkd hkind false 9998 hk w
     have hnow:=findKey_run (P:=P) hI hkd hk w hr0 e3 e4
     have hrw:(H.get l).rw=true:=by rw [hes];show (!isMark es)=true;rw [hmk];rfl
     have hlt:b<w.heap.size:=(Array.getElem?_eq_some_iff.1 e2).1
     have hset : ∀ o:Obj,(setObj b o).run P w= .ok () {w with heap:=w.heap.setIfInBounds b o}:=fun o=>by simp only [setObj,Sem.run,e2]
     have fin : ∀ o:Obj,OneTurn b w {w with heap:=w.heap.setIfInBounds b o}:=fun o=>
      ⟨fun i hi=>by simp only [Array.getElem?_setIfInBounds];rw [if_neg (fun e=>hi e.symm)],by simp,rfl,rfl,rfl⟩
     have hat : ∀ o:Obj,({w with heap:=w.heap.setIfInBounds b o}: World).heap[b]? =some o:=fun o=>by
      simp only [Array.getElem?_setIfInBounds,if_true,hlt]
     cases r with
     | none=>
      have hrun:(Instr.mapUpdate t (.map (some b)) kv vv).run P w= .ok () {w with heap:=w.heap.setIfInBounds b (Obj.map (ms++[({key:=kv,val:=vv,born:=clock}: MapEntry)]).toArray (clock+1))}:=by
       simp only [Instr.mapUpdate,Sem.run_bind,hI.run_und w hd,Result.andThen_ok,hg,hck,hnow,hset,List.push_toArray]
      refine ⟨_,hrun,hr.turn _ hrw hbb (fin _).other (fin _).size rfl rfl rfl ?_⟩
      refine ⟨b,N,_,_,rfl,hat _,MapRel.mk (isMark_app hmk hkany) ?_ ?_,fun e=>absurd e (by simp)⟩
      ·simp only [List.map_append,List.map_cons,List.map_nil]
       exact e3.append (VRs.cons_iff.2 ⟨hk,by simp [VRs]⟩)
      ·simp only [List.map_append,List.map_cons,List.map_nil]
       exact e4.append (VRs.cons_iff.2 ⟨hv,by simp [VRs]⟩)
     | some p=>
      obtain ⟨i,pv⟩:=p
      obtain ⟨m,h1,h2,_⟩:=hnow
      have h3:Instr.sameNow kd kv m.key=some true:=by
       have hna:=hnar _ rfl
       rw [keq_asame I kt kd (by rintro n e rfl;cases hna)] at hr0
       obtain ⟨m',g1,g2⟩:=asel_same hk hr0 e3
       rw [h1] at g1;cases g1
       exact g2
      have hrun:(Instr.mapUpdate t (.map (some b)) kv vv).run P w= .ok () {w with heap:=w.heap.setIfInBounds b (Obj.map (ms.set i ({m with key:=kv,val:=vv}: MapEntry)).toArray clock)}:=by
       have hkey:((ms.toArray[i]?.map fun x=>x.key).getD kv)=m.key:=by simp [h1]
       have hstay:(Instr.keyThatStays m.key kv).run P w= .ok kv w:=by
        simp [Instr.keyThatStays,sameBits_of_now h3]
       have hmod:ms.toArray.modify i (fun e=>{e with key:=kv,val:=vv})=(ms.set i {m with key:=kv,val:=vv}).toArray:=by
        obtain ⟨hi,hm⟩:=List.getElem?_eq_some_iff.1 h1
        apply Array.ext'
        simp only [Array.toList_modify]
        apply List.ext_getElem?
        intro j
        rw [List.getElem?_modify,List.getElem?_set]
        by_cases hj:i=j
        ·subst hj;simp [hi,hm]
        ·simp [hj]
       simp only [Instr.mapUpdate,Sem.run_bind,hI.run_und w hd,Result.andThen_ok,hg,hck,h2,hkey,hstay,hmod,hset]
      refine ⟨_,hrun,hr.turn _ hrw hbb (fin _).other (fin _).size rfl rfl rfl ?_⟩
      refine ⟨b,N,_,_,rfl,hat _,MapRel.mk (isMark_set hmk hkany _) ?_ ?_,fun e=>hemp (by simpa using e)⟩
      ·simp only [List.map_set]
       exact e3.set i hk
      ·simp only [List.map_set]
       exact e4.set i hv
    rcases amupd_sem h hX with ⟨h1,h2⟩ | ⟨i,u,h0,_,h1,h2⟩
    ·exact ⟨_,h1,by have:=key _ h2 (fun p e=>by cases e);simpa using this⟩
    ·exact ⟨_,h1,by have:=key _ h2 (fun p _=>by simpa using h0);simpa using this⟩
   ·exact absurd h hX.fail
  ·exact absurd h hX.fail
 ·exact absurd h hX.fail
def isetIn (x:Int) (f:Nat→Int) (n:Nat): Bool:=(List.range n).any fun i=>x==f i
def isetSnoc (n:Nat) (f:Nat→Int) (x:Int) (i:Nat): Int:=bif Nat.beq i n then x else f i
def amapSet (X:RI R) (I:Info) (t:TypeId) (m k v:AV) (H:AH) (K:AH→R): R :=
 match I.und t,m,k,v with
 | some (.map kt _),.map (some l),.int .i64 x,.bool true=>match I.und kt,H.get l with
  | some (.int _),.iset n f=>X.cond (isetIn x f n) (fun _=>K (H.set l (.iset n f))) (fun _=>K (H.set l (.iset (n+1) (isetSnoc n f x))))
  | some (.int _),.map []=>K (H.set l (.iset 1 (isetSnoc 0 (fun _=>x) x)))
  | _,_=>amapUpdate X I t m k v H K
 | _,_,_,_=>amapUpdate X I t m k v H K
theorem asel_iset {kt:TypeId} {kk:IntKind} {x:Int} {f:Nat→Int}: ∀ L:List Nat,
  (L.any (fun i=>x==f i)=false→asel (keq I kt (.int kk)) (.int .i64 x) (L.map fun i=>(AV.int .i64 (f i),AV.bool true))=some none)∧
  (L.any (fun i=>x==f i)=true→ ∃ j,asel (keq I kt (.int kk)) (.int .i64 x) (L.map fun i=>(AV.int .i64 (f i),AV.bool true))=some (some (j,.bool true)))
 | []=>⟨fun _=>rfl,fun h=>by simp at h⟩
 | i::L=>by
  obtain ⟨h1,h2⟩:=asel_iset (kt:=kt) (kk:=kk) (x:=x) (f:=f) L
  have e:keq I kt (.int kk) (.int .i64 x) (.int .i64 (f i))=some (x==f i):=by simp [keq,asame]
  simp only [List.any_cons,List.map_cons,asel,e]
  cases hb:(x==f i) with
  | true=>exact ⟨fun h=>by simp at h,fun _=>⟨0,rfl⟩⟩
  | false=>
   refine ⟨fun h=>?_,fun h=>?_⟩
   ·rw [h1 (by simpa using h)]
   ·obtain ⟨j,hj⟩:=h2 (by simpa using h)
    exact ⟨j+1,by rw [hj]⟩
theorem VRs_maps {ρ:Env} {α:Type} {g:α→AV} {h:α→Value} (k : ∀ a,VR ρ (g a) (h a)): ∀ L:List α,VRs ρ (L.map g) (L.map h)
 | []=>by simp [VRs]
 | a::L=>by simp only [List.map_cons];exact VRs.cons_iff.2 ⟨k a,VRs_maps k L⟩
theorem isetMs_snoc (n:Nat) (f:Nat→Int) (x:Int): isetMs (n+1) (isetSnoc n f x)=isetMs n f++[{key:=.int .i64 x,val:=.bool true,born:=n}]:=by
 simp only [isetMs,List.range_succ,List.map_append,List.map_cons,List.map_nil]
 congr 1
 ·refine List.map_congr_left fun i hi=>?_
  have:Nat.beq i n=false:=by
   have:=List.mem_range.1 hi
   cases hb:Nat.beq i n with
   | false=>rfl
   | true=>have:=Nat.eq_of_beq_eq_true hb;omega
  simp [isetSnoc,this]
 ·simp [isetSnoc]
include hI in
theorem iset_update {t kt et:TypeId} {kk:IntKind} (hd:I.und t=some (.map kt et)) (hkd:I.und kt=some (.int kk)) {b n:Nat} {f:Nat→Int} {x:Int} {w:World}
  (e2:w.heap[b]? =some (.map (isetMs n f).toArray n)):
  (Instr.mapUpdate t (.map (some b)) (.int .i64 x) (.bool true)).run P w= .ok () {w with heap:=w.heap.setIfInBounds b (match isetIn x f n with
   | true=>Obj.map (isetMs n f).toArray n
   | false=>Obj.map (isetMs (n+1) (isetSnoc n f x)).toArray (n+1))}:=by
 have hg:(getObj b).run P w= .ok (.map (isetMs n f).toArray n) w:=by simp [getObj,Sem.run,e2]
 have hk:VR (⟨fun _=>none,fun _=>none⟩: Env) (.int .i64 x) (.int .i64 x):=by simp only [VR]
 have hck:=run_checkKey (P:=P) hI hkd (k:=.int .i64 x) (by simp [keyOk,asame]) false 9998 hk w
 have v1:VRs (⟨fun _=>none,fun _=>none⟩: Env) (((List.range n).map fun i=>(AV.int .i64 (f i),AV.bool true)).map (·.1)) ((isetMs n f).map (·.key)):=by
  simp only [isetMs,List.map_map]
  exact VRs_maps (fun i=>by simp only [Function.comp,VR]) _
 have v2:VRs (⟨fun _=>none,fun _=>none⟩: Env) (((List.range n).map fun i=>(AV.int .i64 (f i),AV.bool true)).map (·.2)) ((isetMs n f).map (·.val)):=by
  simp only [isetMs,List.map_map]
  exact VRs_maps (fun i=>by simp only [Function.comp,VR]) _
 have hset : ∀ o:Obj,(setObj b o).run P w= .ok () {w with heap:=w.heap.setIfInBounds b o}:=fun o=>by simp only [setObj,Sem.run,e2]
 obtain ⟨a1,a2⟩:=asel_iset (I:=I) (kt:=kt) (kk:=kk) (x:=x) (f:=f) (List.range n)
 cases hin:isetIn x f n with
 | false=>
  have hnow:=findKey_run (P:=P) hI hkd hk w (a1 hin) v1 v2
  simp only [Instr.mapUpdate,Sem.run_bind,hI.run_und w hd,Result.andThen_ok,hg,hck,hnow,hset,List.push_toArray,isetMs_snoc]
 | true=>
  obtain ⟨j,hj⟩:=a2 hin
  have hnow:=findKey_run (P:=P) hI hkd hk w hj v1 v2
  obtain ⟨m,h1,h2,_⟩:=hnow
  have h3:Instr.sameNow (.int kk) (.int .i64 x) m.key=some true:=by
   have hj':=hj
   rw [keq_asame I kt (.int kk) (by rintro n e h;cases h)] at hj'
   obtain ⟨m',g1,g2⟩:=asel_same hk hj' v1
   rw [h1] at g1;cases g1
   exact g2
  have hm:m∈isetMs n f:=List.mem_of_getElem? h1
  obtain ⟨i,_,rfl⟩:=List.mem_map.1 hm
  have hx:x=f i:=by
   simp only [Instr.sameNow] at h3
   simpa using h3
  subst hx
  have hkey:(((isetMs n f).toArray[j]?.map fun x=>x.key).getD (.int .i64 (f i)))= .int .i64 (f i):=by simp [h1]
  have hstay:(Instr.keyThatStays (.int .i64 (f i)) (.int .i64 (f i))).run P w= .ok (.int .i64 (f i)) w:=by
   simp [Instr.keyThatStays,sameBits_of_now h3]
  have hmod:(isetMs n f).toArray.modify j (fun e=>{e with key:=.int .i64 (f i),val:=.bool true})=(isetMs n f).toArray:=by
   obtain ⟨hi,hm⟩:=List.getElem?_eq_some_iff.1 h1
   apply Array.ext'
   simp only [Array.toList_modify]
   apply List.ext_getElem?
   intro y
   rw [List.getElem?_modify]
   by_cases hy:j=y
   ·subst hy;simp [hi,hm]
   ·simp [hy]
  simp only [Instr.mapUpdate,Sem.run_bind,hI.run_und w hd,Result.andThen_ok,hg,hck,h2,hkey,hstay,hmod,hset]
include hX hI in
theorem amapSet_ok {t:TypeId} {m k v:AV} {H:AH} {K:AH→R} (h:sem (amapSet X I t m k v H K)):
  ∃ H',sem (K H')∧ ∀ c ρ w mv kv vv,VR ρ m mv→VR ρ k kv→VR ρ v vv→Rel c ρ H w→ ∃ w',(Instr.mapUpdate t mv kv vv).run P w= .ok () w'∧Rel c ρ H' w':=by
 unfold amapSet at h
 split at h
 ·rename_i kt et l x hd
  have key : ∀ kk,I.und kt=some (.int kk)→ ∀ n f,(H.get l).rw=true→(∀ ρ w o,BlkRel ρ w o (H.get l)→BlkRel ρ w o (.iset n f))→ ∀ c ρ w mv kv vv,VR ρ (.map (some l)) mv→VR ρ (.int .i64 x) kv→VR ρ (.bool true) vv→Rel c ρ H w→
    ∃ w',(Instr.mapUpdate t mv kv vv).run P w= .ok () w'∧Rel c ρ (H.set l (match isetIn x f n with | true=> .iset n f | false=> .iset (n+1) (isetSnoc n f x))) w':=by
   intro kk hkd n f hrw hblk c ρ w mv kv vv hm hk hv hr
   simp only [VR] at hm hk hv
   obtain ⟨b,N,hbb,rfl⟩:=hm
   subst hk hv
   have hb:=hblk _ _ _ (hr.blk l)
   rw [hbb] at hb
   obtain ⟨b',N',e1,e2⟩:=hb
   cases e1
   refine ⟨_,iset_update hI hd hkd e2,?_⟩
   have hlt:b<w.heap.size:=(Array.getElem?_eq_some_iff.1 e2).1
   refine hr.turn _ hrw hbb (fun i hi=>?_) (by simp) rfl rfl rfl ?_
   ·simp only [Array.getElem?_setIfInBounds];rw [if_neg (fun e=>hi e.symm)]
   ·cases isetIn x f n with
    | true=>exact ⟨b,N,rfl,by simp only [Array.getElem?_setIfInBounds,if_true,hlt]⟩
    | false=>exact ⟨b,N,rfl,by simp only [Array.getElem?_setIfInBounds,if_true,hlt]⟩
  split at h
  ·rename_i kk n f hkd hes
   have hc:=hX.cond _ _ _ h
   have k2:=key kk hkd n f (by rw [hes];rfl) (fun ρ w o hb=>by rw [hes] at hb;exact hb)
   cases hin:isetIn x f n with
   | true=>rw [hin] at hc k2;exact ⟨_,hc,k2⟩
   | false=>rw [hin] at hc k2;exact ⟨_,hc,k2⟩
  ·rename_i kk hkd hes
   have k2:=key kk hkd 0 (fun _=>x) (by rw [hes];rfl) (fun ρ w o hb=>by
    rw [hes] at hb
    obtain ⟨b,N,ms,clock,h1,h2,h3,h4⟩:=hb
    obtain ⟨h5,_⟩:=h3.plain rfl
    have e:ms=[]:=by
     cases ms with
     | nil=>rfl
     | cons x xs=>simp [VRs] at h5
    subst e
    rw [h4 rfl] at h2
    exact ⟨b,N,h1,h2⟩)
   exact ⟨_,h,k2⟩
  ·exact amapUpdate_ok hX hI h
 ·exact amapUpdate_ok hX hI h
end
def Ctx.mask (c:Ctx) (ρ:Env) (H:AH) (w:World) (L:Nat→Prop): Ctx :=
 {w0:=w
  Z:=fun k=>c.Z k∨ ∃ l N,L l∧H.get l≠ .dead∧(H.get l).rw=false∧ρ l=some (k,N)
  G:=c.G
  X:=fun k=>c.X k∨ ∃ l N,L l∧(H.get l).rw=true∧ρ l=some (k,N)
  E:=fun l=>l<H.n
  ρ0:=ρ}
theorem Rel.mask {c:Ctx} {ρ:Env} {H:AH} {w:World} (h:Rel c ρ H w) {L:Nat→Prop} {HM:AH} (hn:HM.n=H.n) (hm : ∀ l,(L l∧HM.get l= .dead)∨(¬ L l∧HM.get l=H.get l)):
  Rel (c.mask ρ H w L) ρ HM w:=by
 have rw_dead : ∀ {b:ABlk},b.rw=true→b≠ .dead:=fun h e=>by rw [e] at h;cases h
 have hM : ∀ l,HM.get l≠ .dead→ ¬ L l∧HM.get l=H.get l:=fun l hd=>(hm l).elim (fun e=>absurd e.2 hd) id
 refine ⟨fun l=>?_,fun l l' r N N' hne hrw h1 h2=>?_,fun l r N hrw h1 hz=>?_,fun k hk=>?_,Nat.le_refl _,rfl,rfl,rfl,fun l hl=>h.top l (by omega),h.glob,fun l r N hd h1 hx=>?_,fun l hl=>⟨by rw [hn];exact hl,rfl⟩,fun l hl=>(hm l).elim (fun e=>e.2) (fun e=>e.2.trans (h.low l (by omega))),h.fro,fun l r N hrw h1=>?_,fun k hk=>?_,fun _ _ e=>e⟩
 ·rcases hm l with ⟨_,e⟩ | ⟨_,e⟩
  ·rw [e];trivial
  ·rw [e];exact h.blk l
 ·obtain ⟨_,e⟩:=hM l (rw_dead hrw)
  rw [e] at hrw
  have:=h.sep l l' r N N' hne hrw h1 h2
  rcases hm l' with ⟨_,e'⟩ | ⟨_,e'⟩
  ·exact e'
  ·rw [e'];exact this
 ·obtain ⟨hl,e⟩:=hM l (rw_dead hrw)
  rw [e] at hrw
  rcases hz with hz | ⟨l',N',hL,hd,hro,h2⟩
  ·exact h.prot l r N hrw h1 hz
  ·exact hd (h.sep l l' r N N' (fun e=>hl (e▸hL)) hrw h1 h2)
 ·refine ⟨?_,rfl⟩
  have old : ∀ k,c.Z k∨c.X k→k<w.heap.size:=fun k hk=>Nat.lt_of_lt_of_le (h.keep k hk).1 h.size
  rcases hk with (hk | ⟨l',N',hL,hd,_,h2⟩) | (hk | ⟨l',N',hL,hrw,h2⟩)
  ·exact old k (.inl hk)
  ·exact h.lt hd h2
  ·exact old k (.inr hk)
  ·exact h.lt (rw_dead hrw) h2
 ·obtain ⟨hl,e⟩:=hM l hd
  rw [e] at hd
  rcases hx with hx | ⟨l',N',hL,hrw,h2⟩
  ·exact h.hid l r N hd h1 hx
  ·exact hd (h.sep l' l r N' N (fun e=>hl (e▸hL)) hrw h2 h1)
 ·obtain ⟨_,e⟩:=hM l (rw_dead hrw)
  rw [e] at hrw
  exact h.frw l r N hrw h1
 ·rcases hk with hk | ⟨l',N',hL,hrw,h2⟩
  ·exact h.frx k hk
  ·exact h.frw l' k N' hrw h2
theorem Rel.unmask {c:Ctx} {ρ ρ':Env} {H H' H2:AH} {w w':World} (h:Rel c ρ H w) {L:Nat→Prop} (h':Rel (c.mask ρ H w L) ρ' H' w')
  (hn:H2.n=H'.n) (hm : ∀ l,(L l∧H2.get l=H.get l)∨(¬ L l∧H2.get l=H'.get l)): Ext ρ ρ'∧Rel c ρ' H2 w':=by
 have rw_dead : ∀ {b:ABlk},b.rw=true→b≠ .dead:=fun h e=>by rw [e] at h;cases h
 have env : ∀ l,l<H.n→l<H'.n∧ρ' l=ρ l:=fun l hl=>h'.env l hl
 have hx:Ext ρ ρ':=by
  refine ⟨fun l x e=>?_,h'.frk⟩
  have:l<H.n:=Nat.lt_of_not_le fun hle=>by rw [h.top l hle] at e;cases e
  rw [(env l this).2];exact e
 have low : ∀ l,H.get l≠ .dead→l<H.n:=fun l hd=>h.below hd
 have zone : ∀ l r N,L l→H.get l≠ .dead→ρ l=some (r,N)→(c.mask ρ H w L).Z r∨(c.mask ρ H w L).X r:=fun l r N hL hd h1=>by
  cases hrw:(H.get l).rw with
  | true=>exact .inr (.inr ⟨l,N,hL,hrw,h1⟩)
  | false=>exact .inl (.inr ⟨l,N,hL,hd,hrw,h1⟩)
 refine ⟨hx,fun l=>?_,fun l l' r N N' hne hrw h1 h2=>?_,fun l r N hrw h1 hz=>?_,fun k hk=>?_,Nat.le_trans h.size h'.size,h'.os.trans h.os,h'.output.trans h.output,h'.tape.trans h.tape,fun l hl=>h'.top l (by omega),h'.glob,fun l r N hd h1 hz=>?_,fun l hl=>?_,fun l hl=>?_,h'.fro,fun l r N hrw h1=>?_,fun k hk=>h'.frx k (.inl hk),fun k vs e=>h'.frk k vs (h.frk k vs e)⟩
 ·rcases hm l with ⟨hL,e⟩ | ⟨_,e⟩
  ·rw [e]
   by_cases hd:H.get l= .dead
   ·rw [hd];trivial
   ·rw [(env l (low l hd)).2]
    exact BlkRel.world (fun r N e=>(h'.keep r (zone l r N hL hd e)).2) ((h.blk l).ext hx)
  ·rw [e];exact h'.blk l
 ·rcases hm l with ⟨hL,e⟩ | ⟨hL,e⟩
  ·rw [e] at hrw
   have hd:=rw_dead hrw
   rw [(env l (low l hd)).2] at h1
   rcases hm l' with ⟨hL',e'⟩ | ⟨hL',e'⟩
   ·rw [e']
    apply Classical.byContradiction
    intro hd'
    rw [(env l' (low l' hd')).2] at h2
    exact hd' (h.sep l l' r N N' hne hrw h1 h2)
   ·rw [e']
    apply Classical.byContradiction
    intro hd'
    exact h'.hid l' r N' hd' h2 (.inr ⟨l,N,hL,hrw,h1⟩)
  ·rw [e] at hrw
   rcases hm l' with ⟨hL',e'⟩ | ⟨hL',e'⟩
   ·rw [e']
    apply Classical.byContradiction
    intro hd'
    rw [(env l' (low l' hd')).2] at h2
    rcases zone l' r N' hL' hd' h2 with hz | hz
    ·exact h'.prot l r N hrw h1 hz
    ·exact h'.hid l r N (rw_dead hrw) h1 hz
   ·rw [e']
    exact h'.sep l l' r N N' hne hrw h1 h2
 ·rcases hm l with ⟨hL,e⟩ | ⟨hL,e⟩
  ·rw [e] at hrw
   rw [(env l (low l (rw_dead hrw))).2] at h1
   exact h.prot l r N hrw h1 hz
  ·rw [e] at hrw
   exact h'.prot l r N hrw h1 (.inl hz)
 ·obtain ⟨h1,h2⟩:=h.keep k hk
  exact ⟨h1,((h'.keep k (hk.imp .inl .inl)).2).trans h2⟩
 ·rcases hm l with ⟨hL,e⟩ | ⟨hL,e⟩
  ·rw [e] at hd
   rw [(env l (low l hd)).2] at h1
   exact h.hid l r N hd h1 hz
  ·rw [e] at hd
   exact h'.hid l r N hd h1 (.inl hz)
 ·obtain ⟨h1,h2⟩:=h.env l hl
  obtain ⟨h3,h4⟩:=env l h1
  exact ⟨by omega,h4.trans h2⟩
 ·rcases hm l with ⟨_,e⟩ | ⟨_,e⟩
  ·rw [e]
   refine h.low l (Nat.le_of_not_lt fun hlt=>?_)
   have:=(env l hlt).1
   omega
  ·rw [e];exact h'.low l (by omega)
 ·rcases hm l with ⟨hL,e⟩ | ⟨hL,e⟩
  ·rw [e] at hrw
   rw [(env l (low l (rw_dead hrw))).2] at h1
   exact h'.frx r (.inr ⟨l,N,hL,hrw,h1⟩)
  ·rw [e] at hrw
   exact h'.frw l r N hrw h1
end Go.Sx
end
section
namespace Go.Sx
open Go
inductive CO where
 | ret (a:AV) (H:AH)
 | pan (a:AV) (H:AH)
def CO.sem {R:Type} (sem:R→Prop) (kn kp:AV→AH→R): CO→Prop
 | .ret a H=>sem (kn a H)
 | .pan a H=>sem (kp a H)
def WF (ro:Option Nat): Fence:={Fence.wide with round:=ro}
def CO.post (o:CO) (c:Ctx) (ρ:Env) (e:Ending) (w':World): Prop :=
 match o,e with
 | .ret a H,.returned v=> ∃ ρ',Ext ρ ρ'∧Rel c ρ' H w'∧VR ρ' a v
 | .pan a H,.panicked ch=> ∃ ρ' v,ch=[{v,recovered:=false}]∧Ext ρ ρ'∧Rel c ρ' H w'∧VR ρ' a v
 | _,_=>False
def CallGives (P:Program) (I:Info) (f:FuncId) (args:List AV) (H:AH) (o:CO): Prop :=
 ∀ c ρ w vs,c.G=I.G→VRs ρ args vs→Rel c ρ H w→
  ((callFunc f vs.toArray).run P w= .ok (.enter f vs.toArray) w∧Calls P f vs.toArray w (o.post c ρ))∨
  (∃ v w',(callFunc f vs.toArray).run P w= .ok (.value v) w'∧o.post c ρ (.returned v) w')
abbrev Caller (R:Type):=FuncId→List AV→AH→(AV→AH→R)→(AV→AH→R)→R
def CallerOk {R:Type} (P:Program) (I:Info) (sem:R→Prop) (call:Caller R): Prop :=
 ∀ f args H kn kp,sem (call f args H kn kp)→ ∃ o:CO,o.sem sem kn kp∧CallGives P I f args H o
def RoundGives (P:Program) (I:Info) (l:Nat) (args:List AV) (H:AH) (a:AV) (H':AH): Prop :=
 ∀ c ρ w vs b N,c.G=I.G→VRs ρ args vs→Rel c ρ H w→ρ l=some (b,N)→
  ∃ f tmps as bd,(Instr.yield b vs.toArray).run P w= .ok (.round b f tmps as bd) w∧ ∀ n,RoundIn (WF none) n P b f tmps as bd w ((CO.ret a H').post c ρ)
abbrev Rounder (R:Type):=Nat→List AV→AH→(AV→AH→R)→R
def RounderOk {R:Type} (P:Program) (I:Info) (sem:R→Prop) (round:Rounder R): Prop :=
 ∀ l args H kn,sem (round l args H kn)→ ∃ a H',sem (kn a H')∧RoundGives P I l args H a H'
section
variable {R:Type} {X:RI R} {sem:R→Prop} (hX:X.Ok sem) {I:Info} {P:Program} (hI:I.Ok P)
def aop (X:RI R) (I:Info) (call:Caller R) (round:Rounder R) (o:Oper) (ev:Operand→AV) (H:AH) (kn kp:AV→AH→R): R :=
 match o.op with
 | .store t a x=>astore X I t (ev a) (ev x) H (fun H'=>kn (.tup []) H')
 | .mapUpdate t m k v=>amapSet X I t (ev m) (ev k) (ev v) H (fun H'=>kn (.tup []) H')
 | .insert t m k v=>amapUpdate X I t (ev m) (ev k) (ev v) H (fun H'=>kn (.tup []) H')
 | .panic x=>match ev x with
  | .iface t v=>kp (.iface t v) H
  | _=>X.fail
 | .call {callee:=.value f,args,..}=>match ev f with
  | .fn g first caps=>call g (first++args.toList.map ev++caps) H kn kp
  | .yield l=>round l (args.toList.map ev) H kn
  | _=>X.fail
 | .call {callee:=.builtin .append,args,argTypes}=>match args.toList,argTypes.toList with
  | [a,b],[s,t]=>aappend X I s t (ev a) (ev b) H kn
  | _,_=>X.fail
 | .call {callee:=.builtin .copy,args,argTypes}=>match args.toList,argTypes.toList with
  | [a,b],s::_=>acopy X I s (ev a) (ev b) H kn
  | _,_=>X.fail
 | .call {callee:=.builtin .unsafeSliceData,args,..}=>match args.toList with
  | [a]=>match ev a with
   | .nilSlice=>kn .nilPtr H
   | .own l len e=>X.assert (decide (0<len)) (kn (.ptr l 0 e 0) H)
   | _=>X.fail
  | _=>X.fail
 | .call {callee:=.builtin .unsafeString,args,argTypes}=>match args.toList,argTypes.toList with
  | [p,n],[pt,_]=>match ev p,ev n with
   | .nilPtr,.int .i64 m=>X.assert (decide (m=0)) (kn (.str []) H)
   | .ptr l k e j,.int .i64 m=>match I.und pt,(H.get l).acc with
    | some (.pointer u),.ty t=>match I.size u,(H.get l).bytes 0 m.toNat with
     | some 1,some (ok,bs)=>X.assert (ok&&Nat.beq t u&&Nat.beq (k*e+j) 0&&decide (0<m)&&decide (m≤9223372036854775807)&&(H.get l).rw) (kn (.str bs) (H.set l .dead))
     | _,_=>X.fail
    | _,_=>X.fail
   | _,_=>X.fail
  | _,_=>X.fail
 | .range t x=>match I.und t,ev x with
  | some (.map _ _),.map (some l)=>match H.get l with
   | .map []=>kn (.ptr H.n 0 0 0) (H.new (.iter l))
   | .iset n _=>kn (.ptr H.n 0 0 0) (H.new (.iwalk l n []))
   | _=>X.fail
  | _,_=>X.fail
 | .next it false=>match ev it with
  | .ptr i 0 0 0=>match H.get i with
   | .iter l=>match H.get l with
    | .map []=>kn (.tup [.bool false]) H
    | _=>X.fail
   | _=>X.fail
  | _=>X.fail
 | .entry it=>match ev it with
  | .ptr i 0 0 0=>match H.get i with
   | .iwalk l n (j::_)=>match H.get l with
    | .iset m f=>X.assert (Nat.beq n m&&Nat.blt j n) (kn (.tup [.int .i64 (f j),.bool true]) H)
    | _=>X.fail
   | _=>X.fail
  | _=>X.fail
 | _=>apop X I o ev H kn
theorem isetMs_mem {n j:Nat} {f:Nat→Int} (h:j<n): ({key:=.int .i64 (f j),val:=.bool true,born:=j}: MapEntry)∈(isetMs n f).toArray.toList :=
 List.mem_map.2 ⟨j,List.mem_range.2 h,rfl⟩
theorem isetMs_nodup (n:Nat) (f:Nat→Int): ((isetMs n f).toArray.toList.map (·.born)).Nodup:=by
 have:(isetMs n f).toArray.toList.map (·.born)=List.range n:=by
  simp [isetMs,Function.comp_def]
 rw [this];exact List.nodup_range
def OpGives (P:Program) (I:Info) (o:Oper) (ev:Operand→AV) (H:AH) (out:CO): Prop :=
 ∀ ro n c ρ w (a:Act) (next:Act→World→Prop) (Q:Exit→Act→World→Prop),c.G=I.G→(∀ x,VR ρ (ev x) (a.eval x))→Rel c ρ H w→
  (∀ v H' u w' ρ',out= .ret v H'→Ext ρ ρ'→Rel c ρ' H' w'→VR ρ' v u→next (a.put o.dst u) w')→
  (∀ v H' u w' ρ',out= .pan v H'→Ext ρ ρ'→Rel c ρ' H' w'→VR ρ' v u→Q (.panic [{v:=u,recovered:=false}]) a w')→
  o.wpIn (WF ro) n P a w next Q
theorem wf_about {o:Oper} {w:World} {a:Act} {P:Program} {ro:Option Nat}: ∀ f,o.about P w a.eval=some f→(WF ro).fn f:=fun _ _=>trivial
theorem apop_defer {o:Oper} {ev:Operand→AV} {H:AH} {K:AV→AH→R} (hX:X.Ok sem) (h:sem (apop X I o ev H K)): ∀ c,o.op≠ .defer c:=by
 intro c hc
 unfold apop at h
 rw [hc] at h
 exact hX.fail h
include hX hI in
theorem apop_op {o:Oper} {ev:Operand→AV} {H:AH} {kn kp:AV→AH→R} (h:sem (apop X I o ev H kn)): ∃ out:CO,out.sem sem kn kp∧OpGives P I o ev H out:=by
 have hd:=apop_defer hX h
 obtain ⟨v,H',h1,h2⟩:=apop_ok hX hI h
 refine ⟨.ret v H',h1,fun ro n c ρ w a next Q hG he hr hn hp=>⟨wf_about,?_⟩⟩
 obtain ⟨u,w',ρ',e1,e2,e3,e4,_⟩:=h2 c ρ w a.eval he hr
 rw [Oper.semAt_eq _ _ _ hd,e1,Oper.uponIn_value]
 exact hn v H' u w' ρ' rfl e2 e3 e4
theorem unit_op {o:Oper} {ev:Operand→AV} {H H':AH} {s:(Operand→Value)→Sem Unit} (hd : ∀ c,o.op≠ .defer c) (hs : ∀ e,execOp e o=(do s e;pure .skip))
  (h : ∀ c ρ w (e:Operand→Value),(∀ x,VR ρ (ev x) (e x))→Rel c ρ H w→ ∃ w',(s e).run P w= .ok () w'∧Rel c ρ H' w'): OpGives P I o ev H (.ret (.tup []) H'):=by
 intro ro n c ρ w a next Q hG he hr hn hp
 refine ⟨wf_about,?_⟩
 obtain ⟨w',e1,e2⟩:=h c ρ w a.eval he hr
 rw [Oper.semAt_eq _ _ _ hd,hs]
 simp only [Sem.run_bind,e1,Result.andThen_ok,Sem.run_pure,Oper.uponIn_skip]
 exact hn _ _ _ w' ρ rfl (Ext.refl _) e2 (by simp only [VR];exact ⟨[],rfl,by simp [VRs]⟩)
theorem value_op {o:Oper} {ev:Operand→AV} {H H':AH} {v:AV} (hd : ∀ c,o.op≠ .defer c)
  (h : ∀ c ρ w (e:Operand→Value),(∀ x,VR ρ (ev x) (e x))→Rel c ρ H w→ ∃ v' w' ρ',(execOp e o).run P w= .ok (.value v') w'∧Ext ρ ρ'∧Rel c ρ' H' w'∧VR ρ' v v'): OpGives P I o ev H (.ret v H'):=by
 intro ro n c ρ w a next Q hG he hr hn hp
 refine ⟨wf_about,?_⟩
 obtain ⟨v',w',ρ',e1,e2,e3,e4⟩:=h c ρ w a.eval he hr
 rw [Oper.semAt_eq _ _ _ hd,e1,Oper.uponIn_value]
 exact hn _ _ _ w' ρ' rfl e2 e3 e4
include hX hI in
theorem aop_ok {call:Caller R} (hcall:CallerOk P I sem call) {round:Rounder R} (hround:RounderOk P I sem round) {o:Oper} {ev:Operand→AV} {H:AH} {kn kp:AV→AH→R} (h:sem (aop X I call round o ev H kn kp)):
  ∃ out:CO,out.sem sem kn kp∧OpGives P I o ev H out:=by
 unfold aop at h
 split at h
 ·rename_i t a x ho
  obtain ⟨H',h1,h2⟩:=astore_ok hX hI h
  refine ⟨.ret (.tup []) H',h1,unit_op (s:=fun e=>Instr.storeAt t (e a) (e x)) (by simp [ho]) (fun e=>by simp [execOp,ho]) fun c ρ w e he hr=>h2 c ρ w _ _ (he a) (he x) hr⟩
 ·rename_i t m k v ho
  obtain ⟨H',h1,h2⟩:=amapSet_ok hX hI h
  refine ⟨.ret (.tup []) H',h1,unit_op (s:=fun e=>Instr.mapUpdate t (e m) (e k) (e v)) (by simp [ho]) (fun e=>by simp [execOp,ho]) fun c ρ w e he hr=>h2 c ρ w _ _ _ (he m) (he k) (he v) hr⟩
 ·rename_i t m k v ho
  obtain ⟨H',h1,h2⟩:=amapUpdate_ok hX hI h
  refine ⟨.ret (.tup []) H',h1,unit_op (s:=fun e=>Instr.mapUpdate t (e m) (e k) (e v)) (by simp [ho]) (fun e=>by simp [execOp,ho]) fun c ρ w e he hr=>h2 c ρ w _ _ _ (he m) (he k) (he v) hr⟩
 ·rename_i x ho
  split at h
  ·rename_i t v hx
   refine ⟨.pan (.iface t v) H,h,fun ro n c ρ w a next Q hG he hr hn hp=>⟨wf_about,?_⟩⟩
   have hv:=he x
   rw [hx] at hv
   have hv':=hv
   simp only [VR] at hv'
   obtain ⟨u,hu,_⟩:=hv'
   have hrun:(execOp a.eval o).run P w= .halt (.panic (.iface t u)) w:=by
    simp only [execOp,ho,hu,Instr.panic]
    simp [goPanic,Sem.run]
   rw [Oper.semAt_eq _ _ _ (by simp [ho]),hrun,Oper.uponIn_panic]
   rw [hu] at hv
   exact hp _ _ _ w ρ rfl (Ext.refl _) hr hv
  ·exact absurd h hX.fail
 ·rename_i f args ats ho
  have hargs : ∀ {ρ:Env} {e:Operand→Value},(∀ x,VR ρ (ev x) (e x))→VRs ρ (args.toList.map ev) (args.toList.map e):=fun he=>VRs.of_map he args.toList
  split at h
  ·rename_i g first caps hf
   obtain ⟨out,h1,h2⟩:=hcall _ _ _ _ _ h
   refine ⟨out,h1,fun ro n c ρ w a next Q hG he hr hn hp=>⟨wf_about,?_⟩⟩
   have hv:=he f
   rw [hf] at hv
   simp only [VR] at hv
   obtain ⟨us,vs,hfv,hus,hvs⟩:=hv
   have hrun:(execOp a.eval o).run P w=(callFunc g (us++args.toList.map a.eval++vs).toArray).run P w:=by
    have e1:us.toArray++args.map a.eval++vs.toArray=(us++args.toList.map a.eval++vs).toArray:=by apply Array.ext';simp
    simp only [execOp,ho,resolve,hfv,Deferred.ofValue,Sem.run_bind,Sem.run_pure,Result.andThen_ok,invoke,e1]
   rw [Oper.semAt_eq _ _ _ (by simp [ho]),hrun]
   rcases h2 c ρ w _ hG ((hus.append (hargs he)).append hvs) hr with ⟨k1,k2⟩ | ⟨v,w',k1,k2⟩
   ·rw [k1,Oper.uponIn_enter]
    refine ⟨fun hh=>by simp [WF,Fence.wide] at hh,?_⟩
    have:CallsIn Fence.wide (n-1) P g (us++args.toList.map a.eval++vs).toArray w (out.post c ρ):=callsIn_wide.2 k2
    refine CallsIn.mono (F:=WF ro) (show CallsIn (WF ro) (n-1) P g _ w (out.post c ρ) from this) fun e w' hpost=>?_
    cases out with
    | ret v H'=>
     cases e with
     | returned u=>
      obtain ⟨ρ',p1,p2,p3⟩:=hpost
      exact hn v H' u w' ρ' rfl p1 p2 p3
     | panicked ch=>exact hpost.elim
     | outgrown=>exact hpost.elim
    | pan v H'=>
     cases e with
     | returned u=>exact hpost.elim
     | panicked ch=>
      obtain ⟨ρ',u,rfl,p1,p2,p3⟩:=hpost
      exact hp v H' u w' ρ' rfl p1 p2 p3
     | outgrown=>exact hpost.elim
   ·rw [k1,Oper.uponIn_value]
    cases out with
    | ret v' H'=>
     obtain ⟨ρ',p1,p2,p3⟩:=k2
     exact hn v' H' v w' ρ' rfl p1 p2 p3
    | pan v' H'=>exact k2.elim
  ·rename_i l hf
   obtain ⟨b,H',h1,h2⟩:=hround _ _ _ _ h
   refine ⟨.ret b H',h1,fun ro n c ρ w a next Q hG he hr hn hp=>⟨wf_about,?_⟩⟩
   have hv:=he f
   rw [hf] at hv
   simp only [VR] at hv
   obtain ⟨bb,N,hl,hfv⟩:=hv
   obtain ⟨fn,tmps,as,bd,k1,k2⟩:=h2 c ρ w _ bb N hG (hargs he) hr hl
   have hrun:(execOp a.eval o).run P w= .ok (.round bb fn tmps as bd) w:=by
    have e1 : #[]++args.map a.eval=(args.toList.map a.eval).toArray:=by apply Array.ext';simp
    simp only [execOp,ho,resolve,hfv,Deferred.ofValue,Sem.run_bind,Sem.run_pure,Result.andThen_ok,invoke,e1]
    exact k1
   rw [Oper.semAt_eq _ _ _ (by simp [ho]),hrun,Oper.uponIn_round]
   refine ⟨fun hh=>by simp [WF,Fence.wide] at hh,?_⟩
   refine RoundIn.mono (F:=WF ro) (show RoundIn (WF ro) (n-1) P bb fn tmps as bd w ((CO.ret b H').post c ρ) from k2 (n-1)) fun e w' hpost=>?_
   cases e with
   | returned u=>
    obtain ⟨ρ',p1,p2,p3⟩:=hpost
    exact hn b H' u w' ρ' rfl p1 p2 p3
   | panicked ch=>exact hpost.elim
   | outgrown=>exact hpost.elim
  ·exact absurd h hX.fail
 ·rename_i args ats ho
  split at h
  ·rename_i a b s t ha hts
   obtain ⟨v,H',h1,h2⟩:=aappend_ok hX hI h
   refine ⟨.ret v H',h1,value_op (by simp [ho]) fun c ρ w e he hr=>?_⟩
   obtain ⟨v',w',ρ',k1,k2⟩:=h2 c ρ w (e a) (e b) o.type (he a) (he b) hr
   have e1:args.map e= #[e a,e b]:=by apply Array.ext';simp [ha]
   have e2:ats= #[s,t]:=by apply Array.ext';simp [hts]
   refine ⟨v',w',ρ',?_,k2⟩
   simp only [execOp,ho,resolve,Sem.run_bind,Sem.run_pure,Result.andThen_ok,invoke,builtin,e1,e2,k1]
  ·exact absurd h hX.fail
 ·rename_i args ats ho
  split at h
  ·rename_i a b s ts ha hts
   obtain ⟨v,H',h1,h2⟩:=acopy_ok hX hI h
   refine ⟨.ret v H',h1,value_op (by simp [ho]) fun c ρ w e he hr=>?_⟩
   obtain ⟨v',w',ρ',k1,k2⟩:=h2 c ρ w (e a) (e b) ats o.type (by rw [←Array.getElem?_toList,hts];rfl) (he a) (he b) hr
   have e1:args.map e= #[e a,e b]:=by apply Array.ext';simp [ha]
   refine ⟨v',w',ρ',?_,k2⟩
   simp only [execOp,ho,resolve,Sem.run_bind,Sem.run_pure,Result.andThen_ok,invoke,builtin,e1,k1]
  ·exact absurd h hX.fail
 ·rename_i args ats ho
  split at h
  ·rename_i a ha
   have e1 : ∀ e:Operand→Value,args.map e= #[e a]:=fun e=>by apply Array.ext';simp [ha]
   split at h
   ·rename_i hx
    refine ⟨.ret .nilPtr H,h,value_op (by simp [ho]) fun c ρ w e he hr=>?_⟩
    have hv:=he a
    rw [hx] at hv
    simp only [VR] at hv
    refine ⟨.pointer none,w,ρ,?_,Ext.refl _,hr,by simp only [VR]⟩
    simp only [execOp,ho,resolve,Sem.run_bind,Sem.run_pure,Result.andThen_ok,invoke,builtin,e1,hv,Lib.run_unsafeSliceData_nil]
   ·rename_i l len e0 hx
    obtain ⟨h1,h2⟩:=hX.assert _ _ h
    simp only [decide_eq_true_eq] at h1
    refine ⟨.ret (.ptr l 0 e0 0) H,h2,value_op (by simp [ho]) fun c ρ w e he hr=>?_⟩
    have hv:=he a
    rw [hx] at hv
    simp only [VR] at hv
    rcases hv with ⟨h0,_⟩ | ⟨b,N,cc,hb,hv,hle,_⟩
    ·omega
    ·refine ⟨.pointer (some ⟨b,0,none⟩),w,ρ,?_,Ext.refl _,hr,by simp only [VR];exact ⟨b,N,hb,by simp⟩⟩
     have hr2 : ∀ ts ty,(Builtin.unsafeSliceData_ ts ty #[.slice (some ⟨b,0,none⟩) len cc]).run P w= .ok (.pointer (some ⟨b,0,none⟩)) w:=fun ts ty=>Lib.run_unsafeSliceData_row w ts ty _ _ _ (by omega)
     simp only [execOp,ho,resolve,Sem.run_bind,Sem.run_pure,Result.andThen_ok,invoke,builtin,e1,hv,hr2]
   ·exact absurd h hX.fail
  ·exact absurd h hX.fail
 ·rename_i args ats ho
  split at h
  ·rename_i p n pt it ha hts
   have e1 : ∀ e:Operand→Value,args.map e= #[e p,e n]:=fun e=>by apply Array.ext';simp [ha]
   have e2:ats= #[pt,it]:=by apply Array.ext';simp [hts]
   split at h
   ·rename_i m hp hn
    obtain ⟨h1,h2⟩:=hX.assert _ _ h
    simp only [decide_eq_true_eq] at h1
    subst h1
    refine ⟨.ret (.str []) H,h2,value_op (by simp [ho]) fun c ρ w e he hr=>?_⟩
    have hvp:=he p
    have hvn:=he n
    rw [hp] at hvp
    rw [hn] at hvn
    simp only [VR] at hvp hvn
    refine ⟨.string .empty,w,ρ,?_,Ext.refl _,hr,by simp only [VR];rfl⟩
    simp only [execOp,ho,resolve,Sem.run_bind,Sem.run_pure,Result.andThen_ok,invoke,builtin,e1,e2,hvp,hvn,Lib.run_unsafeString_none]
   ·rename_i l k e0 j m hp hn
    split at h
    ·rename_i u t hu hacc
     split at h
     ·rename_i ok bs hsz hbs
      obtain ⟨h1,h2⟩:=hX.assert _ _ h
      simp only [Bool.and_eq_true,decide_eq_true_eq] at h1
      obtain ⟨⟨⟨⟨⟨rfl,htu⟩,hoff⟩,hm0⟩,hm1⟩,hrw⟩:=h1
      have htu:=Nat.eq_of_beq_eq_true htu
      have hoff:=Nat.eq_of_beq_eq_true hoff
      subst htu
      refine ⟨.ret (.str bs) (H.set l .dead),h2,value_op (by simp [ho]) fun c ρ w e he hr=>?_⟩
      have hvp:=he p
      have hvn:=he n
      rw [hp] at hvp
      rw [hn] at hvn
      simp only [VR] at hvp hvn
      obtain ⟨b,N,hb,hvp⟩:=hvp
      have hblk:=hr.blk l
      rw [hb] at hblk
      obtain ⟨b1,b2,b3⟩:=ABlk.bytes_ok hblk hbs
      have hsh:w.shape? b=some (t,N):=by
       cases hx:H.get l with
       | cells cs a=>
        rw [hx] at hblk hacc
        simp only [ABlk.acc] at hacc
        obtain ⟨el,s1,_,s3⟩:=CellsRel.shape hblk
        rw [s3 _ hacc] at s1
        exact s1
       | rows q e2 f a=>
        rw [hx] at hblk hacc
        simp only [ABlk.acc] at hacc
        obtain ⟨el,s1,_,s3⟩:=CellsRel.shape hblk.2
        rw [s3 _ hacc] at s1
        exact s1
       | str q a=>
        rw [hx] at hblk hacc
        simp only [ABlk.acc] at hacc
        obtain ⟨el,s1,_,s3⟩:=CellsRel.shape hblk
        rw [s3 _ hacc] at s1
        exact s1
       | map=>rw [hx] at hacc;simp only [ABlk.acc] at hacc;split at hacc<;>cases hacc
       | loop | dfr | iter | iset | iwalk | dead=>rw [hx] at hacc;simp [ABlk.acc] at hacc
      obtain ⟨i,i1,i2⟩:=hI.size _ _ hsz
      have hc:P.cellsOf t=1:=by simp [Program.cellsOf,i1,i2]
      have hne:bs≠[]:=fun e=>by rw [e] at b1;simp at b1;omega
      have hm:m=(bs.length:Int):=by rw [b1];omega
      have hrun:(Builtin.unsafeString_ #[pt,it] o.type #[.pointer (some ⟨b,0,none⟩),.int .i64 bs.length]).run P w= .ok (.string ⟨bs.toArray⟩) (w.freeze ⟨b,0,none⟩ bs.length):=
       Lib.run_unsafeString_row w pt it o.type t (hI.und _ _ hu) hc b N hsh bs hne (by omega) (by omega) fun j x hx=>by
        obtain ⟨hj,hx'⟩:=List.getElem?_eq_some_iff.1 hx
        have:=b3 j hj
        rw [addr_add,this,hx']
      refine ⟨.string ⟨bs.toArray⟩,w.freeze ⟨b,0,none⟩ bs.length,ρ,?_,Ext.refl _,?_,by simp only [VR]⟩
      ·rw [hm] at hvn
       rw [hoff] at hvp
       simp only [execOp,ho,resolve,Sem.run_bind,Sem.run_pure,Result.andThen_ok,invoke,builtin,e1,e2,hvp,hvn,hrun]
      ·refine hr.turn .dead hrw hb (fun k hk=>?_) ?_ ?_ ?_ ?_ trivial
       ·unfold World.freeze
        split
        ·rfl
        ·simp only [Array.getElem?_modify]
         rw [if_neg (fun e=>hk e.symm)]
       all_goals (unfold World.freeze;split<;>simp)
     ·exact absurd h hX.fail
    ·exact absurd h hX.fail
   ·exact absurd h hX.fail
  ·exact absurd h hX.fail
 ·rename_i t x ho
  split at h
  ·rename_i kt vt l ht hx
   split at h
   ·rename_i hl
    refine ⟨.ret (.ptr H.n 0 0 0) (H.new (.iter l)),h,value_op (by simp [ho]) fun c ρ w e he hr=>?_⟩
    have hv:=he x
    rw [hx] at hv
    simp only [VR] at hv
    obtain ⟨m,M,hm,hv⟩:=hv
    have hblk:=hr.blk l
    rw [hl,hm] at hblk
    obtain ⟨b,N,ms,clock,e1,e2,e34,_⟩:=hblk
    have e3:=(e34.plain rfl).1
    cases e1
    have hln:l≠H.n:=fun e=>by rw [e,hr.top _ (Nat.le_refl _)] at hm;cases hm
    obtain ⟨hx2,hr2⟩:=hr.new (.mapIter (some m) clock #[] clock) 0 (.iter l) fun w' hw'=>
     ⟨_,_,m,M,clock,clock,rfl,by rw [Env.put_ne _ _ hln];exact hm,Nat.le_refl _,hw'⟩
    refine ⟨_,_,_,?_,hx2,hr2,by simp only [VR];exact ⟨w.heap.size,0,Env.put_same _ _ _,rfl⟩⟩
    simp only [execOp,ho,hv,Sem.run_bind,Go.run_range_map w t kt vt m ms.toArray clock (hI.und _ _ ht) e2,Result.andThen_ok,Sem.run_pure]
    rfl
   ·rename_i n f hl
    refine ⟨.ret (.ptr H.n 0 0 0) (H.new (.iwalk l n [])),h,value_op (by simp [ho]) fun c ρ w e he hr=>?_⟩
    have hv:=he x
    rw [hx] at hv
    simp only [VR] at hv
    obtain ⟨m,M,hm,hv⟩:=hv
    have hblk:=hr.blk l
    rw [hl,hm] at hblk
    obtain ⟨b,N,e1,e2⟩:=hblk
    cases e1
    have hln:l≠H.n:=fun e=>by rw [e,hr.top _ (Nat.le_refl _)] at hm;cases hm
    obtain ⟨hx2,hr2⟩:=hr.new (.mapIter (some m) n #[] n) 0 (.iwalk l n []) fun w' hw'=>
     ⟨_,_,m,M,rfl,by rw [Env.put_ne _ _ hln];exact hm,hw'⟩
    refine ⟨_,_,_,?_,hx2,hr2,by simp only [VR];exact ⟨w.heap.size,0,Env.put_same _ _ _,rfl⟩⟩
    simp only [execOp,ho,hv,Sem.run_bind,Go.run_range_map w t kt vt m _ n (hI.und _ _ ht) e2,Result.andThen_ok,Sem.run_pure]
    rfl
   ·exact absurd h hX.fail
  ·exact absurd h hX.fail
 ·rename_i it ho
  split at h
  ·rename_i i hit
   split at h
   ·rename_i l hi
    split at h
    ·rename_i hl
     refine ⟨.ret (.tup [.bool false]) H,h,value_op (by simp [ho]) fun c ρ w e he hr=>?_⟩
     have hv:=he it
     rw [hit] at hv
     simp only [VR] at hv
     obtain ⟨r,R',hr0,hv⟩:=hv
     have hb1:=hr.blk i
     rw [hi,hr0] at hb1
     obtain ⟨b,N,m,M,since,last,e1,e2,e3,e4⟩:=hb1
     cases e1
     have hb2:=hr.blk l
     rw [hl,e2] at hb2
     obtain ⟨b2,N2,ms,clock,f1,f2,f34,_⟩:=hb2
     have f3:=(f34.plain rfl).1
     cases f1
     have hms:ms=[]:=by
      have:=f3.length_eq
      simp only [List.map_nil,List.length_nil,List.length_map] at this
      exact List.eq_nil_of_length_eq_zero this.symm
     subst hms
     refine ⟨_,w,ρ,?_,Ext.refl _,hr,by simp only [VR];exact ⟨[.bool false],rfl,VRs.cons_iff.2 ⟨by simp only [VR],by simp [VRs]⟩⟩⟩
     rcases Go.run_next_at (P:=P) w o.type r m since last #[] #[] clock e4 f2 (by simp) e3 with ⟨_,hrun⟩ | ⟨x,hx,_⟩
     ·simp only [Nat.zero_mul,Nat.zero_add] at hv
      simp only [execOp,ho,hv,Sem.run_bind,hrun,Result.andThen_ok,Sem.run_pure]
     ·simp [leftOf] at hx
    ·exact absurd h hX.fail
   ·exact absurd h hX.fail
  ·exact absurd h hX.fail
 ·rename_i it ho
  split at h
  ·rename_i i hit
   split at h
   ·rename_i l n j S hi
    split at h
    ·rename_i m f hl
     obtain ⟨h0,h1⟩:=hX.assert _ _ h
     simp only [Bool.and_eq_true] at h0
     obtain ⟨h2,h3⟩:=h0
     have hnm:=Nat.eq_of_beq_eq_true h2
     subst hnm
     have hjn:j<n:=by simpa [Nat.blt,Nat.succ_le_iff] using h3
     refine ⟨.ret (.tup [.int .i64 (f j),.bool true]) H,h1,value_op (by simp [ho]) fun c ρ w e he hr=>?_⟩
     have hv:=he it
     rw [hit] at hv
     simp only [VR] at hv
     obtain ⟨r,R',hr0,hv⟩:=hv
     have hb1:=hr.blk i
     rw [hi,hr0] at hb1
     obtain ⟨b,N,m,M,e1,e2,e3⟩:=hb1
     cases e1
     have hb2:=hr.blk l
     rw [hl,e2] at hb2
     obtain ⟨b2,N2,f1,f2⟩:=hb2
     cases f1
     have e4:w.heap[r]? =some (.mapIter (some m) n (S.reverse.toArray.push j) n):=by
      rw [e3];simp
     have hrun:=Go.run_entry_at (P:=P) w r m n S.reverse.toArray _ n {key:=.int .i64 (f j),val:=.bool true,born:=j} e4 f2 (isetMs_mem hjn) (isetMs_nodup n f)
     refine ⟨_,w,ρ,?_,Ext.refl _,hr,by simp only [VR];exact ⟨[.int .i64 (f j),.bool true],rfl,VRs.cons_iff.2 ⟨by simp only [VR],VRs.cons_iff.2 ⟨by simp only [VR],by simp [VRs]⟩⟩⟩⟩
     simp only [Nat.zero_mul,Nat.zero_add] at hv
     simp only [execOp,ho,hv,Sem.run_bind,hrun,Result.andThen_ok,Sem.run_pure]
    ·exact absurd h hX.fail
   ·exact absurd h hX.fail
  ·exact absurd h hX.fail
 ·exact apop_op hX hI h
end
end Go.Sx
end
section
namespace Go.Sx
open Go
structure St where
 t:Tr AV
 nt:Nat
 H:AH
 df:List Nat
def constAV (v:Value): AV:=match ofVal v with | some a=>a | none=> .any
def St.ev (G:Nat) (s:St): Operand→AV
 | .tmp i=>tget s.t i
 | .const v=>constAV v
 | .global g=>bif Nat.blt g G then .ptr g 0 0 0 else .any
 | .func f=> .fn f [] []
def St.put (s:St) (d:Option Tmp) (a:AV): St :=
 match d with
 | none=>s
 | some i=>match s with
  | ⟨t,nt,H,df⟩=>bif Nat.blt i nt then ⟨t.set i a,nt,H,df⟩ else ⟨t,nt,H,df⟩
def St.heap (s:St) (H:AH): St:=match s with
 | ⟨t,nt,_,df⟩=>⟨t,nt,H,df⟩
def DfR (ρ:Env): List Nat→List Deferred→Prop
 | [],ds=>ds=[]
 | l::ls,ds=> ∃ b N rest,ρ l=some (b,N)∧ds={target:=.collected b,args := #[]}::rest∧DfR ρ ls rest
theorem DfR.ext {ρ ρ':Env} (h:Ext ρ ρ'): ∀ {ls:List Nat} {ds:List Deferred},DfR ρ ls ds→DfR ρ' ls ds
 | [],_,k=>k
 | _::_,_,⟨b,N,rest,h1,h2,h3⟩=>⟨b,N,rest,h _ _ h1,h2,DfR.ext h h3⟩
structure SRel (c:Ctx) (ρ:Env) (s:St) (a:Act) (w:World): Prop where
 tmp:TmpR ρ s.t s.nt a.tmps
 heap:Rel c ρ s.H w
 df:DfR ρ s.df a.defers
theorem SRel.ev {c:Ctx} {ρ:Env} {s:St} {a:Act} {w:World} (h:SRel c ρ s a w) {G:Nat} (hG:c.G=G) (x:Operand): VR ρ (s.ev G x) (a.eval x):=by
 cases x with
 | tmp i=>exact h.tmp.2 i
 | const v=>
  simp only [St.ev,constAV,Act.eval]
  split
  ·rename_i a ha;exact ofVal_ok ρ v a ha
  ·simp only [VR]
 | global g=>
  simp only [St.ev,Act.eval]
  cases hg:Nat.blt g G with
  | true=>
   rw [Nat.blt_eq] at hg
   obtain ⟨N,hN⟩:=h.heap.glob g (by omega)
   simp only [cond_true,VR]
   exact ⟨g,N,hN,by simp⟩
  | false=>simp only [cond_false,VR]
 | func f=>simp only [St.ev,Act.eval,VR];exact ⟨[],[],rfl,by simp [VRs],by simp [VRs]⟩
theorem tget_set (t:Tr AV) (i j:Nat) (a:AV): tget (t.set i a) j=if j=i then a else tget t j:=by
 unfold tget
 rw [Tr.get_set]
 by_cases h:j=i<;>simp [h]
theorem TmpR.set {ρ:Env} {t:Tr AV} {nt:Nat} {vs:Array Value} (h:TmpR ρ t nt vs) {i:Nat} {a:AV} {v:Value} (hv:VR ρ a v) (hi:i<nt): TmpR ρ (t.set i a) nt (vs.setIfInBounds i v):=by
 refine ⟨by simpa using h.1,fun j=>?_⟩
 rw [tget_set]
 by_cases hj:j=i
 ·subst hj
  have:j<vs.size:=by rw [h.1];exact hi
  simpa [this] using hv
 ·rw [if_neg hj]
  have:(vs.setIfInBounds i v).getD j undef=vs.getD j undef:=by
   simp only [Array.getD_eq_getD_getElem?,Array.getElem?_setIfInBounds]
   rw [if_neg (fun e=>hj e.symm)]
  rw [this]
  exact h.2 j
theorem SRel.put {c:Ctx} {ρ ρ':Env} {s:St} {a:Act} {w w':World} (h:SRel c ρ s a w) (hx:Ext ρ ρ') {H':AH} (hr:Rel c ρ' H' w') {v:AV} {u:Value} (hv:VR ρ' v u) (d:Option Tmp): SRel c ρ' ((s.heap H').put d v) (a.put d u) w':=by
 cases d with
 | none=>exact ⟨h.tmp.ext hx,hr,h.df.ext hx⟩
 | some i=>
  simp only [St.put,Act.put,St.heap]
  cases hi:Nat.blt i s.nt with
  | true=>
   rw [Nat.blt_eq] at hi
   exact ⟨(h.tmp.ext hx).set hv hi,hr,h.df.ext hx⟩
  | false=>
   have hi' : ¬ i<s.nt:=fun e=>by rw [←Nat.blt_eq,hi] at e;cases e
   have:a.tmps.setIfInBounds i u=a.tmps:=by
    apply Array.ext'
    simp only [Array.toList_setIfInBounds]
    exact List.set_eq_of_length_le (by rw [Array.length_toList,show a.tmps.size=s.nt from h.tmp.1];exact Nat.le_of_not_lt hi')
   rw [this]
   exact ⟨h.tmp.ext hx,hr,h.df.ext hx⟩
structure KS (R:Type) where
 n:St→R
 x:Nat→St→R
 g:Nat→St→R
 r:St→R
 p:AV→St→R
inductive AExit where
 | n (s:St)
 | x (i:Nat) (s:St)
 | g (l:Nat) (s:St)
 | r (s:St)
 | p (a:AV) (s:St)
def AExit.sem {R:Type} (sem:R→Prop) (k:KS R): AExit→Prop
 | .n s=>sem (k.n s)
 | .x i s=>sem (k.x i s)
 | .g l s=>sem (k.g l s)
 | .r s=>sem (k.r s)
 | .p a s=>sem (k.p a s)
def AExit.post (e:AExit) (c:Ctx) (ρ:Env) (x:Exit) (a:Act) (w:World): Prop :=
 match e,x with
 | .n s,.normal=> ∃ ρ',Ext ρ ρ'∧SRel c ρ' s a w
 | .x i s,.exit j=>i=j∧ ∃ ρ',Ext ρ ρ'∧SRel c ρ' s a w
 | .g l s,.goto m=>l=m∧ ∃ ρ',Ext ρ ρ'∧SRel c ρ' s a w
 | .r s,.ret=> ∃ ρ',Ext ρ ρ'∧SRel c ρ' s a w
 | .p v s,.panic ch=> ∃ ρ' u,ch=[{v:=u,recovered:=false}]∧Ext ρ ρ'∧SRel c ρ' s a w∧VR ρ' v u
 | _,_=>False
theorem AExit.post_ext {e:AExit} {c:Ctx} {ρ ρ':Env} {x:Exit} {a:Act} {w:World} (hx:Ext ρ ρ') (h:e.post c ρ' x a w): e.post c ρ x a w:=by
 cases e<;>cases x<;>simp only [AExit.post] at h⊢ <;>first
  | exact h
  | (obtain ⟨ρ2,h1,h2⟩:=h;exact ⟨ρ2,hx.trans h1,h2⟩)
  | (obtain ⟨h0,ρ2,h1,h2⟩:=h;exact ⟨h0,ρ2,hx.trans h1,h2⟩)
  | (obtain ⟨ρ2,u,h0,h1,h2⟩:=h;exact ⟨ρ2,u,h0,hx.trans h1,h2⟩)
section
variable {R:Type} {X:RI R} {sem:R→Prop} (hX:X.Ok sem) {I:Info} {P:Program} (hI:I.Ok P)
def rops (X:RI R) (I:Info) (call:Caller R) (round:Rounder R) (ops:Array Oper) (k:KS R): List Oper→St→R
 | [],s=>k.n s
 | o::rest,s=>
  match o.guard with
  | none=>aop X I call round o (s.ev I.G) s.H (fun a H=>rops X I call round ops k rest ((s.heap H).put o.dst a)) (fun a H=>k.p a (s.heap H))
  | some (j,want)=>
   match (ops[j]?).bind (·.dst) with
   | none=>X.fail
   | some d=>
    match tget s.t d with
    | .bool b=>
     let run (s:St):=aop X I call round o (s.ev I.G) s.H (fun a H=>rops X I call round ops k rest ((s.heap H).put o.dst a)) (fun a H=>k.p a (s.heap H))
     let skip (s:St):=rops X I call round ops k rest (s.put o.dst (.tup []))
     X.cond b (fun _=>(bif want then run else skip) (s.put (some d) (.bool true))) (fun _=>(bif want then skip else run) (s.put (some d) (.bool false)))
    | .tup []=>rops X I call round ops k rest (s.put o.dst (.tup []))
    | _=>X.fail
theorem wpOpsIn_run {ro:Option Nat} {n:Nat} {P:Program} {ops:Array Oper} {Q:Exit→Act→World→Prop} {i:Nat} {rest:List Nat} {o:Oper} {a:Act} {w:World} (ho:ops[i]? =some o)
  (hw:Region.wanted o (yielded ops a.tmps)=true) (h:o.wpIn (WF ro) n P a w (wpOpsIn (WF ro) n P ops Q rest) Q): wpOpsIn (WF ro) n P ops Q (i::rest) a w:=by
 simp only [wpOpsIn,ho,hw,if_true];exact h
theorem wpOpsIn_skip {ro:Option Nat} {n:Nat} {P:Program} {ops:Array Oper} {Q:Exit→Act→World→Prop} {i:Nat} {rest:List Nat} {o:Oper} {a:Act} {w:World} (ho:ops[i]? =some o)
  (hw:Region.wanted o (yielded ops a.tmps)=false) (h:wpOpsIn (WF ro) n P ops Q rest (a.put o.dst undef) w): wpOpsIn (WF ro) n P ops Q (i::rest) a w:=by
 simp only [wpOpsIn,ho,hw,Bool.false_eq_true,if_false];exact ⟨fun _ _=>trivial,h⟩
theorem SRel.lit {c:Ctx} {ρ:Env} {s:St} {a:Act} {w:World} (h:SRel c ρ s a w) {d:Nat} {b:Bool} (hd:tget s.t d= .bool b): SRel c ρ (s.put (some d) (.bool b)) a w:=by
 simp only [St.put]
 cases hi:Nat.blt d s.nt with
 | true=>
  refine ⟨⟨h.tmp.1,fun j=>?_⟩,h.heap,h.df⟩
  simp only [cond_true]
  rw [tget_set]
  by_cases hj:j=d
  ·subst hj;rw [if_pos rfl,←hd];exact h.tmp.2 j
  ·rw [if_neg hj];exact h.tmp.2 j
 | false=>exact h
theorem VR_undef {ρ:Env}: VR ρ (.tup []) undef:=by simp only [VR];exact ⟨[],rfl,by simp [VRs]⟩
theorem wanted_of {o:Oper} {ops:Array Oper} {tmps:Array Value} {j d:Nat} {want b:Bool} (hg:o.guard=some (j,want)) (hd:(ops[j]?).bind (·.dst)=some d) (hv:tmps.getD d undef= .bool b):
  Region.wanted o (yielded ops tmps)=(b==want):=by
 simp only [Region.wanted,hg,yielded,hd,Option.bind_some]
 have:tmps[d]? =some (.bool b):=by
  rw [Array.getD_eq_getD_getElem?] at hv
  cases ht:tmps[d]? with
  | none=>rw [ht] at hv;simp [undef] at hv
  | some x=>rw [ht] at hv;simp at hv;rw [hv]
 rw [this]
 cases b<;>cases want<;>rfl
theorem wanted_undef {o:Oper} {ops:Array Oper} {tmps:Array Value} {j d:Nat} {want:Bool} (hg:o.guard=some (j,want)) (hd:(ops[j]?).bind (·.dst)=some d) (hv:tmps.getD d undef=undef):
  Region.wanted o (yielded ops tmps)=false:=by
 simp only [Region.wanted,hg,yielded,hd,Option.bind_some]
 rw [Array.getD_eq_getD_getElem?] at hv
 cases ht:tmps[d]? with
 | none=>rfl
 | some x=>
  rw [ht] at hv
  simp at hv
  subst hv
  rfl
include hX hI in
theorem rops_ok {call:Caller R} (hcall:CallerOk P I sem call) {round:Rounder R} (hround:RounderOk P I sem round) {ops:Array Oper} {k:KS R}: ∀ (l:List Oper) (i:Nat) (s:St),ops.toList.drop i=l→sem (rops X I call round ops k l s)→
  ∃ e:AExit,e.sem sem k∧ ∀ ro n c ρ a w (Q:Exit→Act→World→Prop),c.G=I.G→SRel c ρ s a w→(∀ x a' w',e.post c ρ x a' w'→Q x a' w')→wpOpsIn (WF ro) n P ops Q (List.range' i l.length) a w
 | [],i,s,_,h=>⟨.n s,h,fun ro n c ρ a w Q hG hr hQ=>by
   simp only [List.length_nil,List.range'_zero,wpOpsIn]
   exact hQ .normal a w ⟨ρ,Ext.refl ρ,hr⟩⟩
 | o::rest,i,s,hl,h=>by
  have ho:ops[i]? =some o:=by
   have:(ops.toList.drop i)[0]? =some o:=by rw [hl];rfl
   rw [List.getElem?_drop] at this
   simpa using this
  have hrest:ops.toList.drop (i+1)=rest:=by
   rw [←List.drop_drop,hl];rfl
  have hrange:List.range' i (o::rest).length=i::List.range' (i+1) rest.length:=by simp [List.range'_succ]
  have run : ∀ s:St,sem (aop X I call round o (s.ev I.G) s.H (fun a H=>rops X I call round ops k rest ((s.heap H).put o.dst a)) (fun a H=>k.p a (s.heap H)))→
    ∃ e:AExit,e.sem sem k∧ ∀ ro n c ρ a w (Q:Exit→Act→World→Prop),c.G=I.G→SRel c ρ s a w→Region.wanted o (yielded ops a.tmps)=true→(∀ x a' w',e.post c ρ x a' w'→Q x a' w')→wpOpsIn (WF ro) n P ops Q (i::List.range' (i+1) rest.length) a w:=by
   intro s h
   obtain ⟨out,h1,h2⟩:=aop_ok hX hI hcall hround h
   cases out with
   | ret v H'=>
    obtain ⟨e,h3,h4⟩:=rops_ok hcall hround rest (i+1) _ hrest h1
    refine ⟨e,h3,fun ro n c ρ a w Q hG hr hw hQ=>wpOpsIn_run ho hw (h2 ro n c ρ w a _ Q hG (hr.ev hG) hr.heap (fun v2 H2 u w' ρ' e2 hx hr' hv=>?_) fun v2 H2 u w' ρ' e2=>by cases e2)⟩
    cases e2
    exact h4 ro n c ρ' _ w' Q hG (hr.put hx hr' hv o.dst) fun x a' w' hp=>hQ x a' w' (AExit.post_ext hx hp)
   | pan v H'=>
    refine ⟨.p v (s.heap H'),h1,fun ro n c ρ a w Q hG hr hw hQ=>wpOpsIn_run ho hw (h2 ro n c ρ w a _ Q hG (hr.ev hG) hr.heap (fun v2 H2 u w' ρ' e2=>by cases e2) fun v2 H2 u w' ρ' e2 hx hr' hv=>?_)⟩
    cases e2
    exact hQ _ _ _ ⟨ρ',u,rfl,hx,⟨hr.tmp.ext hx,hr',hr.df.ext hx⟩,hv⟩
  have skip : ∀ s:St,sem (rops X I call round ops k rest (s.put o.dst (.tup [])))→
    ∃ e:AExit,e.sem sem k∧ ∀ ro n c ρ a w (Q:Exit→Act→World→Prop),c.G=I.G→SRel c ρ s a w→Region.wanted o (yielded ops a.tmps)=false→(∀ x a' w',e.post c ρ x a' w'→Q x a' w')→wpOpsIn (WF ro) n P ops Q (i::List.range' (i+1) rest.length) a w:=by
   intro s h
   obtain ⟨e,h3,h4⟩:=rops_ok hcall hround rest (i+1) _ hrest h
   refine ⟨e,h3,fun ro n c ρ a w Q hG hr hw hQ=>wpOpsIn_skip ho hw ?_⟩
   exact h4 ro n c ρ _ w Q hG (hr.put (Ext.refl ρ) hr.heap VR_undef o.dst) hQ
  rw [hrange]
  simp only [rops] at h
  split at h
  ·rename_i hg
   obtain ⟨e,h1,h2⟩:=run s h
   exact ⟨e,h1,fun ro n c ρ a w Q hG hr hQ=>h2 ro n c ρ a w Q hG hr (by simp [Region.wanted,hg]) hQ⟩
  ·rename_i j want hg
   split at h
   ·exact absurd h hX.fail
   ·rename_i d hd
    split at h
    ·rename_i b hb
     have hc:=hX.cond _ _ _ h
     have hwant : ∀ c ρ a w,SRel c ρ s a w→Region.wanted o (yielded ops a.tmps)=(b==want):=fun c ρ a w hr=>wanted_of hg hd (by
      have:=hr.tmp.2 d
      rw [hb] at this
      simpa only [VR] using this)
     have lit : ∀ c ρ a w,SRel c ρ s a w→SRel c ρ (s.put (some d) (.bool b)) a w:=fun c ρ a w hr=>hr.lit hb
     have hs:(if b=true then (bif want then sem (aop X I call round o ((s.put (some d) (.bool true)).ev I.G) (s.put (some d) (.bool true)).H (fun a H=>rops X I call round ops k rest (((s.put (some d) (.bool true)).heap H).put o.dst a)) (fun a H=>k.p a ((s.put (some d) (.bool true)).heap H))) else sem (rops X I call round ops k rest ((s.put (some d) (.bool true)).put o.dst (.tup []))))
       else (bif want then sem (rops X I call round ops k rest ((s.put (some d) (.bool false)).put o.dst (.tup []))) else sem (aop X I call round o ((s.put (some d) (.bool false)).ev I.G) (s.put (some d) (.bool false)).H (fun a H=>rops X I call round ops k rest (((s.put (some d) (.bool false)).heap H).put o.dst a)) (fun a H=>k.p a ((s.put (some d) (.bool false)).heap H))))):=by
      cases want<;>exact hc
     cases b<;>cases want<;>simp only [if_true,Bool.false_eq_true,if_false,cond_true,cond_false] at hs
     ·obtain ⟨e,h1,h2⟩:=run _ hs
      exact ⟨e,h1,fun ro n c ρ a w Q hG hr hQ=>h2 ro n c ρ a w Q hG (lit c ρ a w hr) (by rw [hwant c ρ a w hr];rfl) hQ⟩
     ·obtain ⟨e,h1,h2⟩:=skip _ hs
      exact ⟨e,h1,fun ro n c ρ a w Q hG hr hQ=>h2 ro n c ρ a w Q hG (lit c ρ a w hr) (by rw [hwant c ρ a w hr];rfl) hQ⟩
     ·obtain ⟨e,h1,h2⟩:=skip _ hs
      exact ⟨e,h1,fun ro n c ρ a w Q hG hr hQ=>h2 ro n c ρ a w Q hG (lit c ρ a w hr) (by rw [hwant c ρ a w hr];rfl) hQ⟩
     ·obtain ⟨e,h1,h2⟩:=run _ hs
      exact ⟨e,h1,fun ro n c ρ a w Q hG hr hQ=>h2 ro n c ρ a w Q hG (lit c ρ a w hr) (by rw [hwant c ρ a w hr];rfl) hQ⟩
    ·rename_i hb
     obtain ⟨e,h1,h2⟩:=skip s h
     refine ⟨e,h1,fun ro n c ρ a w Q hG hr hQ=>h2 ro n c ρ a w Q hG hr (wanted_undef hg hd ?_) hQ⟩
     have:=hr.tmp.2 d
     rw [hb] at this
     simp only [VR] at this
     obtain ⟨vs,h5,h6⟩:=this
     simp only [VRs] at h6
     subst h6
     exact h5
    ·exact absurd h hX.fail
include hX hI in
theorem rops_region {call:Caller R} (hcall:CallerOk P I sem call) {round:Rounder R} (hround:RounderOk P I sem round) {ops:Array Oper} {k:KS R} {s:St} (h:sem (rops X I call round ops k ops.toList s)) (id:Nat):
  ∃ e:AExit,e.sem sem k∧ ∀ ro n c ρ a w,c.G=I.G→SRel c ρ s a w→(Code.region id ops false).wpIn (WF ro) n P (e.post c ρ) a w:=by
 obtain ⟨e,h1,h2⟩:=rops_ok hX hI hcall hround ops.toList 0 s rfl h
 refine ⟨e,h1,fun ro n c ρ a w hG hr=>wpIn_region ?_⟩
 have:=h2 ro n c ρ a w (e.post c ρ) hG hr fun _ _ _ h=>h
 rw [List.range_eq_range']
 simpa using this
end
end Go.Sx
end
section
namespace Go.Sx
open Go
inductive Task where
 | code (c:Code)
 | inLoop (c:Code)
 | inScope (r c:Code)
def Task.items:Task→List Item
 | .code c=>[.code c]
 | .inLoop c=>[.inLoop c]
 | .inScope r c=>[.code r,.inScope c]
def TaskWp (F:Fence) (n:Nat) (P:Program) (t:Task) (Q:Exit→Act→World→Prop) (a:Act) (w:World): Prop :=
 ∀ (b:Frame) (k:List Item) (cs:List Frame),b.roundOf=F.round→F.fn b.fn→F.room (cs.length+1+n)→
  ∃ e a' w',Q e a' w'∧ArrivesIn (Machine.fenced P F) P (lone (b.atR a (t.items++k)) cs w) b k cs e a' w'
theorem TaskWp.code_iff {F:Fence} {n:Nat} {P:Program} {c:Code} {Q:Exit→Act→World→Prop} {a:Act} {w:World}: TaskWp F n P (.code c) Q a w↔c.wpIn F n P Q a w:=Iff.rfl
abbrev Runner (R:Type):=Bool→Task→St→KS R→R
abbrev Spec (R:Type):=List AV→AH→(AV→AH→R)→(AV→AH→R)→R
def TaskGives (P:Program) (I:Info) (ir:Bool) (t:Task) (s:St) (e:AExit): Prop :=
 ∀ ro n c ρ a w,(ir=false→ro=none)→c.G=I.G→SRel c ρ s a w→TaskWp (WF ro) n P t (e.post c ρ) a w
def RunOk {R:Type} (P:Program) (I:Info) (sem:R→Prop) (rec:Runner R): Prop :=
 ∀ ir t s k,sem (rec ir t s k)→ ∃ e:AExit,e.sem sem k∧TaskGives P I ir t s e
abbrev Loops (R:Type):=Bool→Code→St→Option (KS R→R)
def LoopsOk {R:Type} (P:Program) (I:Info) (sem:R→Prop) (Λ:Loops R): Prop :=
 ∀ ir c s g,Λ ir c s=some g→ ∀ k,sem (g k)→ ∃ e:AExit,e.sem sem k∧TaskGives P I ir (.code (.loop c)) s e
def noLoops (R:Type): Loops R:=fun _ _ _=>none
theorem noLoops_ok {R:Type} (P:Program) (I:Info) (sem:R→Prop): LoopsOk P I sem (noLoops R):=fun _ _ _ _ h=>by cases h
def SpecsOk {R:Type} (P:Program) (I:Info) (sem:R→Prop) (Γ:FuncId→Option (Spec R)): Prop :=
 ∀ f s,Γ f=some s→ ∀ args H kn kp,sem (s args H kn kp)→ ∃ o:CO,o.sem sem kn kp∧CallGives P I f args H o
abbrev Drawer (R:Type):=Caller R→Rounder R→Array Oper→KS R→St→R
def DrawerOk {R:Type} (P:Program) (I:Info) (sem:R→Prop) (dr:Drawer R): Prop :=
 ∀ call round,CallerOk P I sem call→RounderOk P I sem round→ ∀ ops k s,sem (dr call round ops k s)→ ∃ e:AExit,e.sem sem k∧ ∀ ro n c ρ a w id,c.G=I.G→SRel c ρ s a w→(Code.region id ops true).wpIn (WF ro) n P (e.post c ρ) a w
section
variable {R:Type} (X:RI R) (I:Info)
def killDf:List Nat→AH→(AH→R)→R
 | [],H,K=>K H
 | l::ls,H,K=>match H.get l with
  | .dfr=>killDf ls (H.set l .dead) K
  | _=>X.fail
def ares (s:St) (H:AH): List ResultVar→(List AV→R)→R
 | [],K=>K []
 | .tmp t::rs,K=>ares s H rs (fun vs=>K (tget s.t t::vs))
 | .cell a t::rs,K=>aload X I t H (tget s.t a) (fun v=>ares s H rs (fun vs=>K (v::vs)))
def oneOf:List AV→AV
 | [v]=>v
 | vs=> .tup vs
def leave (rs:List ResultVar) (s:St) (kn:AV→AH→R): R :=
 killDf X s.df s.H fun H=>ares X I s H rs fun vs=>kn (oneOf vs) H
def setAll:Tr AV→Nat→List AV→Tr AV
 | t,_,[]=>t
 | t,i,a::as=>setAll (t.set i a) (i+1) as
def St.start (args:List AV) (n:Nat) (H:AH): St:={t:=setAll .e 0 args,nt:=args.length+(n-args.length),H,df:=[]}
def callOf (Γ:FuncId→Option (Spec R)) (rec:Runner R): Caller R:=fun f args H kn kp=>
 match Γ f with
 | some s=>s args H kn kp
 | none=>match I.body f with
  | some (c,n,rs)=>rec false (.code c) (.start args n H)
    {n:=fun s=>leave X I rs s kn,r:=fun s=>leave X I rs s kn,x:=fun _ _=>X.fail,g:=fun _ _=>X.fail,p:=fun a s=>killDf X s.df s.H (kp a)}
  | none=>X.fail
def setParams (nt:Nat) (t:Tr AV) (ps:List (Nat×AV)): Tr AV:=ps.foldl (fun t p=>bif Nat.blt p.1 nt then t.set p.1 p.2 else t) t
def endR (l:Nat) (jump:Option Code) (kn:AV→AH→R) (s:St): R :=
 match s.H.get l with
 | .loop _ _ t nt ps as bd df=>kn (.bool jump.isNone) (s.H.set l (.loop (if jump.isNone then .ready else .done) jump t nt ps as bd df))
 | _=>X.fail
def roundOf (rec:Runner R): Rounder R:=fun l args H kn=>
 match H.get l with
 | .loop _ _ t nt ps as bd _=>
  if ps.length=args.length then
   rec true (.code as) {t:=setParams nt t (ps.zip args),nt,H,df:=[]}
    {n:=fun s1=>match s1.H.get l with
      | .loop .ready pd t nt ps as bd' df=>rec true (.code bd) (s1.heap (s1.H.set l (.loop .busy pd t nt ps as bd' df)))
        {n:=endR X l none kn,r:=endR X l (some .ret) kn,x:=fun i=>endR X l (some (.exit i)) kn,g:=fun i=>endR X l (some (.goto i)) kn,p:=fun _ _=>X.fail}
      | _=>X.fail
     x:=fun _ _=>X.fail,g:=fun _ _=>X.fail,r:=fun _=>X.fail,p:=fun _ _=>X.fail}
  else X.fail
 | _=>X.fail
def afterLoop (k:KS R) (s:St): Option Code→R
 | none=>k.n s
 | some .ret=>k.r s
 | some (.exit i)=>k.x i s
 | some (.goto i)=>k.g i s
 | _=>X.fail
def stepRun (Γ:FuncId→Option (Spec R)) (Λ:Loops R) (dr:Drawer R) (rec:Runner R): Runner R:=fun ir t s k=>
 match t with
 | .inLoop c=>rec ir (.code c) s {k with n:=fun s'=>rec ir (.inLoop c) s' k}
 | .inScope r c=>rec ir (.code r) s {k with g:=fun l s'=>match findLabel c l with
   | some r'=>rec ir (.inScope r' c) s' k
   | none=>k.g l s'}
 | .code c=>match c with
  | .skip=>k.n s
  | .region _ ops false=>rops X I (callOf X I Γ rec) (roundOf X rec) ops k ops.toList s
  | .region _ ops true=>dr (callOf X I Γ rec) (roundOf X rec) ops k s
  | .seq x y=>rec ir (.code x) s {k with n:=fun s'=>rec ir (.code y) s' k}
  | .cond c x y=>match s.ev I.G c with
   | .bool b=>X.cond b (fun _=>rec ir (.code x) s k) (fun _=>rec ir (.code y) s k)
   | _=>X.fail
  | .block id c=>rec ir (.code c) s {k with x:=fun i s'=>bif Nat.beq i id then k.n s' else k.x i s'}
  | .loop c=>match Λ ir c s with
   | some g=>g k
   | none=>rec ir (.code c) s {k with n:=fun s'=>rec ir (.inLoop c) s' k}
  | .rangeFunc f ps as bd=>match ir,s.ev I.G f with
   | false,.fn g first caps=>match (I.body g).isSome with
    | true=>
     callOf X I Γ rec g (first++ .yield (s.H.n+1)::caps) ((s.H.new .dfr).new (.loop .ready none s.t s.nt ps.toList as bd s.H.n))
      (fun _ H=>match H.get (s.H.n+1) with
       | .loop .ready pd _ _ _ _ _ _=>afterLoop X k {s with H:=H.set (s.H.n+1) .dead,df:=s.H.n::s.df} pd
       | .loop .done pd _ _ _ _ _ _=>afterLoop X k {s with H:=H.set (s.H.n+1) .dead,df:=s.H.n::s.df} pd
       | _=>X.fail)
      (fun v H=>k.p v {s with H:=H,df:=s.H.n::s.df})
    | false=>X.fail
   | _,_=>X.fail
  | .exit id=>k.x id s
  | .scope c=>rec ir (.inScope c c) s k
  | .label _=>k.n s
  | .goto l=>k.g l s
  | .ret=>k.r s
  | .refuse _=>X.fail
def run (Γ:FuncId→Option (Spec R)) (Λ:Loops R) (dr:Drawer R) (fuel:Nat): Runner R :=
 Nat.rec (motive:=fun _=>Runner R) (fun _ _ _ _=>X.fail) (fun _ rec=>stepRun X I Γ Λ dr rec) fuel
end
section
variable {R:Type} {X:RI R} {sem:R→Prop} (hX:X.Ok sem) {I:Info} {P:Program} (hI:I.Ok P)
include hX in
theorem killDf_ok (P:Program): ∀ {ls:List Nat} {H:AH} {K:AH→R},sem (killDf X ls H K)→
  ∃ H',sem (K H')∧ ∀ (F:Fence) (n:Nat) (fn:Func) (tmps:Array Value) (Rr:Ending→World→Prop) (u:FrameMode),u≠ .run→ ∀ c ρ w ds,Rel c ρ H w→DfR ρ ls ds→(∀ w',Rel c ρ H' w'→LeavesIn F n P fn tmps Rr [] u w')→LeavesInM F n P fn tmps Rr ds u w
 | [],H,K,h=>⟨H,h,fun F n fn tmps Rr u hu c ρ w ds hr hd hQ=>by
   simp only [DfR] at hd;subst hd
   exact hQ w hr⟩
 | l::ls,H,K,h=>by
  simp only [killDf] at h
  split at h
  ·rename_i hl
   obtain ⟨H',h1,h2⟩:=killDf_ok P h
   refine ⟨H',h1,fun F n fn tmps Rr u hu c ρ w ds hr hd hQ=>?_⟩
   obtain ⟨b,N,rest,e1,rfl,e3⟩:=hd
   have hblk:=hr.blk l
   rw [hl,e1] at hblk
   obtain ⟨b',N',e4,e5⟩:=hblk
   cases e4
   have hlt:b<w.heap.size:=(Array.getElem?_eq_some_iff.1 e5).1
   refine ⟨hu,.inl ⟨b,_,rfl,run_takeDeferred e5,h2 F n fn tmps Rr u hu c ρ _ rest ?_ e3 hQ⟩⟩
   exact hr.turn .dead (by rw [hl];rfl) e1 (fun k hk=>World.putObj_heap_other hk) World.putObj_size rfl rfl rfl trivial
  ·exact absurd h hX.fail
theorem run_asAddr {P:Program} {v:Value} (h : ∃ a,v= .pointer (some a)) (t:TypeId) (w:World): (do loadVar t (←asAddr v): Sem Value).run P w=(Instr.loadAt t v).run P w:=by
 obtain ⟨a,rfl⟩:=h
 simp [asAddr,Instr.loadAt,Instr.sureAddr]
theorem mapM_cons_run {P:Program} {α β:Type} (f:α→Sem β) (x:α) (xs:List α) (w:World): (List.mapM f (x::xs)).run P w=((f x).run P w).andThen fun y w'=>((List.mapM f xs).run P w').andThen fun ys w''=> .ok (y::ys) w'':=by
 simp [List.mapM_cons]
include hX hI in
theorem ares_ok {s:St} {H:AH}: ∀ {rs:List ResultVar} {K:List AV→R},sem (ares X I s H rs K)→
  ∃ vs,sem (K vs)∧ ∀ c ρ w tmps,TmpR ρ s.t s.nt tmps→Rel c ρ H w→ ∃ us,(rs.mapM (fun x:ResultVar=>(match x with
   | .tmp t=>pure (tmps.getD t undef)
   | .cell a t=>do loadVar t (←asAddr (tmps.getD a undef)): Sem Value))).run P w= .ok us w∧VRs ρ vs us
 | [],K,h=>⟨[],h,fun c ρ w tmps ht hr=>⟨[],by simp,by simp [VRs]⟩⟩
 | .tmp t::rs,K,h=>by
  obtain ⟨vs,h1,h2⟩:=ares_ok (rs:=rs) h
  refine ⟨_,h1,fun c ρ w tmps ht hr=>?_⟩
  obtain ⟨us,h3,h4⟩:=h2 c ρ w tmps ht hr
  refine ⟨tmps.getD t undef::us,?_,VRs.cons_iff.2 ⟨ht.2 t,h4⟩⟩
  rw [mapM_cons_run]
  simp only [Sem.run_pure,Result.andThen_ok,h3]
 | .cell a t::rs,K,h=>by
  simp only [ares] at h
  have hp : ∃ q,aptr H (tget s.t a)=some q:=by
   unfold aload at h
   split at h
   ·exact ⟨_,by assumption⟩
   ·exact absurd h hX.fail
  obtain ⟨⟨blk,k,e,j⟩,hp⟩:=hp
  obtain ⟨v,h1,h2⟩:=aload_ok hX hI h
  obtain ⟨vs,h3,h4⟩:=ares_ok (rs:=rs) h1
  refine ⟨_,h3,fun c ρ w tmps ht hr=>?_⟩
  obtain ⟨us,h5,h6⟩:=h4 c ρ w tmps ht hr
  obtain ⟨u,h7,h8⟩:=h2 c ρ w _ (ht.2 a) hr
  obtain ⟨b,q,hv,_⟩:=aptr_ok hp (ht.2 a) hr
  refine ⟨u::us,?_,VRs.cons_iff.2 ⟨h8,h6⟩⟩
  rw [mapM_cons_run]
  simp only [run_asAddr ⟨_,hv⟩,h7,Result.andThen_ok,h5]
theorem oneOf_ok {ρ:Env} {vs:List AV} {us:List Value} (h:VRs ρ vs us): VR ρ (oneOf vs) (if h:us.toArray.size=1 then us.toArray[0] else .tuple us.toArray):=by
 have hl:=h.length_eq
 unfold oneOf
 split
 ·rename_i v
  simp only [VRs] at h
  obtain ⟨u,us',rfl,h1,rfl⟩:=h
  simpa using h1
 ·rename_i hne
  have : ¬ us.toArray.size=1:=by
   simp only [List.size_toArray]
   intro e
   rw [e] at hl
   match vs,hl with
   | [v],_=>exact hne v rfl
  rw [dif_neg this]
  simp only [VR]
  exact ⟨us,rfl,h⟩
include hX hI in
theorem leave_ok {rs:List ResultVar} {s:St} {kn:AV→AH→R} (h:sem (leave X I rs s kn)): ∃ v H',sem (kn v H')∧ ∀ c ρ a w (fn:Func) (F:Fence) (n:Nat) (Rr:Ending→World→Prop),SRel c ρ s a w→fn.results.toList=rs→
  (∀ u w',Rel c ρ H' w'→VR ρ v u→Rr (.returned u) w')→LeavesInM F n P fn a.tmps Rr a.defers .returning w:=by
 unfold leave at h
 obtain ⟨H',h1,h2⟩:=killDf_ok hX P h
 obtain ⟨vs,h3,h4⟩:=ares_ok hX hI h1
 refine ⟨_,H',h3,fun c ρ a w fn F n Rr hr hfn hQ=>?_⟩
 refine h2 F n fn a.tmps Rr .returning (by simp) c ρ w a.defers hr.heap hr.df fun w' hr'=>?_
 obtain ⟨us,h5,h6⟩:=h4 c ρ w' a.tmps hr.tmp hr'
 refine ⟨_,?_,hQ _ w' hr' (oneOf_ok h6)⟩
 have e1:fn.results=rs.toArray:=by apply Array.ext';simpa using hfn
 unfold results
 rw [e1]
 simp only [List.mapM_toArray,Sem.run_bind]
 have h7:(Functor.map List.toArray (rs.mapM (fun x:ResultVar=>(match x with
   | .tmp t=>pure (a.tmps.getD t undef)
   | .cell a1 t=>do loadVar t (←asAddr (a.tmps.getD a1 undef)): Sem Value)))).run P w'= .ok us.toArray w':=by
  rw [map_eq_pure_bind]
  simp only [Sem.run_bind,Sem.run_pure]
  rw [h5]
  rfl
 erw [h7]
 simp only [Result.andThen_ok,Sem.run_pure]
theorem tget_setAll : ∀ (as:List AV) (t:Tr AV) (i j:Nat),tget (setAll t i as) j=if i≤j∧j<i+as.length then as.getD (j-i) .any else tget t j
 | [],t,i,j=>by
  simp only [setAll,List.length_nil,Nat.add_zero]
  rw [if_neg (by omega)]
 | a::as,t,i,j=>by
  simp only [setAll]
  rw [tget_setAll as _ (i+1) j,tget_set]
  simp only [List.length_cons]
  by_cases h1:j=i
  ·subst h1
   rw [if_neg (by omega),if_pos rfl,if_pos (by omega)]
   simp
  ·by_cases h2:i≤j∧j<i+(as.length+1)
   ·rw [if_pos (by omega),if_pos h2]
    have:j-i=(j-(i+1))+1:=by omega
    rw [this]
    simp
   ·rw [if_neg (by omega),if_neg h1,if_neg h2]
theorem start_ok {c:Ctx} {ρ:Env} {H:AH} {w:World} {args:List AV} {vs:List Value} (hv:VRs ρ args vs) (hr:Rel c ρ H w) (n:Nat):
  SRel c ρ (.start args n H) {tmps:=vs.toArray++Array.replicate (n-vs.toArray.size) undef,defers:=[]} w:=by
 have hl:=hv.length_eq
 refine ⟨⟨by simp [St.start,hl],fun j=>?_⟩,hr,rfl⟩
 simp only [St.start]
 rw [tget_setAll]
 simp only [Nat.zero_le,true_and,Nat.zero_add,Nat.sub_zero]
 by_cases hj:j<args.length
 ·rw [if_pos hj]
  obtain ⟨v,h1,h2⟩:=hv.get j (a:=args.getD j .any) (by rw [List.getD_eq_getElem?_getD,List.getElem?_eq_getElem hj];rfl)
  have:(vs.toArray++Array.replicate (n-vs.toArray.size) undef).getD j undef=v:=by
   rw [Array.getD_eq_getD_getElem?,Array.getElem?_append_left (by simp;omega)]
   simp [h1]
  rw [this];exact h2
 ·rw [if_neg hj]
  simp only [tget,Tr.get_e,VR]
include hX hI in
theorem callOf_ok {Γ:FuncId→Option (Spec R)} (hΓ:SpecsOk P I sem Γ) {rec:Runner R} (hrec:RunOk P I sem rec): CallerOk P I sem (callOf X I Γ rec):=by
 intro f args H kn kp h
 unfold callOf at h
 split at h
 ·rename_i s hs
  exact hΓ f s hs args H kn kp h
 ·split at h
  ·rename_i c n rs hb
   obtain ⟨fn,hf,hbody,hn,hrs,hname⟩:=hI.body f c n rs hb
   obtain ⟨e,h1,h2⟩:=hrec _ _ _ _ h
   have enter:=hname
   have body : ∀ (o:CO),(∀ cx ρ a w x,e.post cx ρ x a w→bodyPostM (WF none) 0 P fn (o.post cx ρ) x a w)→CallGives P I f args H o:=by
    intro o ho cx ρ w vs hG hv hr
    refine .inl ⟨enter _ _,?_⟩
    have goal:CallsIn (WF none) 0 P f vs.toArray w (o.post cx ρ):=?_
    ·exact callsIn_wide.1 goal
    have hst:=start_ok hv hr n
    have:=h2 none 0 cx ρ _ w (fun _=>rfl) hG hst
    rw [TaskWp.code_iff] at this
    exact callsIn_of_wp_marks (F:=WF none) hf hbody trivial (wpIn_mono (by rw [hn];exact this) fun x a w=>ho cx ρ a w x)
   cases e with
   | n s=>
    obtain ⟨v,H',h3,h4⟩:=leave_ok hX hI (P:=P) h1
    refine ⟨.ret v H',h3,body _ fun cx ρ a w x hp=>?_⟩
    cases x with
    | normal=>
     obtain ⟨ρ',hx,hr⟩:=hp
     exact h4 cx ρ' a w fn _ _ _ hr hrs fun u w' hr' hv=>⟨ρ',hx,hr',hv⟩
    | _=>exact hp.elim
   | r s=>
    obtain ⟨v,H',h3,h4⟩:=leave_ok hX hI (P:=P) h1
    refine ⟨.ret v H',h3,body _ fun cx ρ a w x hp=>?_⟩
    cases x with
    | ret=>
     obtain ⟨ρ',hx,hr⟩:=hp
     exact h4 cx ρ' a w fn _ _ _ hr hrs fun u w' hr' hv=>⟨ρ',hx,hr',hv⟩
    | _=>exact hp.elim
   | x i s=>exact absurd h1 hX.fail
   | g l s=>exact absurd h1 hX.fail
   | p v s=>
    obtain ⟨H',h3,h4⟩:=killDf_ok hX P h1
    refine ⟨.pan v H',h3,body _ fun cx ρ a w x hp=>?_⟩
    cases x with
    | panic ch=>
     obtain ⟨ρ',u,rfl,hx,hr,hv⟩:=hp
     exact h4 _ _ fn a.tmps _ (.panicking _) (by simp) cx ρ' w a.defers hr.heap hr.df fun w' hr'=>⟨ρ',u,rfl,hx,hr',hv⟩
    | _=>exact hp.elim
  ·exact absurd h hX.fail
theorem TaskWp.mono {F:Fence} {n:Nat} {P:Program} {t:Task} {Q Q':Exit→Act→World→Prop} {a:Act} {w:World} (h:TaskWp F n P t Q a w) (hq : ∀ e a w,Q e a w→Q' e a w): TaskWp F n P t Q' a w :=
 fun b k cs hro hb hr=>let ⟨e,a',w',q,r⟩:=h b k cs hro hb hr;⟨e,a',w',hq _ _ _ q,r⟩
theorem wp_round {F:Fence} {n:Nat} {P:Program} {c:Code} {Q:Exit→Act→World→Prop} {a:Act} {w:World} (t:Task) (ht:t= .inLoop c∨t= .code (.loop c))
  (h:c.wpIn F n P (Exit.then (TaskWp F n P (.inLoop c) Q) Q) a w): TaskWp F n P t Q a w:=by
 intro b k cs hro hb hr
 have h0:(lone (b.atR a (t.items++k)) cs w).fenced P F∧step P (lone (b.atR a (t.items++k)) cs w)= .next (lone (b.atR a (.code c::.inLoop c::k)) cs w):=by
  rcases ht with rfl | rfl
  ·exact ⟨fenced_calm hb hr rfl,stepR_inLoop⟩
  ·exact ⟨fenced_calm hb hr rfl,stepR_loop⟩
 obtain ⟨e,a₁,w₁,hq,harr⟩:=h b (.inLoop c::k) cs hro hb hr
 cases e with
 | normal=>
  obtain ⟨e₂,a₂,w₂,hq₂,harr₂⟩:=hq b k cs hro hb hr
  exact ⟨e₂,a₂,w₂,hq₂,.of_steps (.head h0.1 h0.2 harr) harr₂⟩
 | exit id=>exact ⟨_,a₁,w₁,hq,.of_steps (.one h0.1 h0.2) (.pass (x:=.inLoop c) rfl (fun _ _=> .inl (by simp)) harr)⟩
 | goto l=>exact ⟨_,a₁,w₁,hq,.of_steps (.one h0.1 h0.2) (.pass (x:=.inLoop c) rfl (fun _ _=> .inl (by simp)) harr)⟩
 | ret=>exact ⟨_,a₁,w₁,hq,.of_steps (.one h0.1 h0.2) (.pass (x:=.inLoop c) rfl (fun _ _=> .inl (by simp)) harr)⟩
 | panic ch=>exact ⟨_,a₁,w₁,hq,.of_steps (.one h0.1 h0.2) (.pass (x:=.inLoop c) rfl (fun _ _=> .inl (by simp)) harr)⟩
 | outgrown=>exact ⟨_,a₁,w₁,hq,.of_steps (.one h0.1 h0.2) (.pass (x:=.inLoop c) rfl (fun _ _=> .inl (by simp)) harr)⟩
def scopePost (F:Fence) (n:Nat) (P:Program) (c:Code) (Q:Exit→Act→World→Prop): Exit→Act→World→Prop
 | .goto l,a,w=>match findLabel c l with
  | some r=>TaskWp F n P (.inScope r c) Q a w
  | none=>Q (.goto l) a w
 | e,a,w=>Q e a w
theorem wp_inScope {F:Fence} {n:Nat} {P:Program} {c r:Code} {Q:Exit→Act→World→Prop} {a:Act} {w:World} (h:r.wpIn F n P (scopePost F n P c Q) a w): TaskWp F n P (.inScope r c) Q a w:=by
 intro b k cs hro hb hr
 obtain ⟨e,a₁,w₁,hq,harr⟩:=h b (.inScope c::k) cs hro hb hr
 have hex : ∀ id,exitTo id (.inScope c::k)=exitTo id k:=fun id=>by simp [exitTo]
 cases e with
 | normal=>
  have hs:step P (lone (b.atR a₁ (.inScope c::k)) cs w₁)= .next (lone (b.atR a₁ k) cs w₁):=step_lone_go (by simp [stepG,stepG.exec,Frame.atR])
  exact ⟨.normal,a₁,w₁,hq,StepsIn.trans harr (.one (fenced_calm hb hr rfl) hs)⟩
 | exit id=>exact ⟨_,a₁,w₁,hq,fun k' hk=>harr.1 k' (by rw [hex];exact hk),fun hr hk=>harr.2 hr (by rw [hex];exact hk)⟩
 | goto l=>
  simp only [scopePost] at hq
  cases hf:findLabel c l with
  | some r'=>
   rw [hf] at hq
   have hg:gotoIn l (.inScope c::k)=some (.code r'::.inScope c::k):=by simp [gotoIn,hf]
   obtain ⟨e₂,a₂,w₂,hq₂,harr₂⟩:=hq b k cs hro hb hr
   exact ⟨e₂,a₂,w₂,hq₂,.of_steps (harr.1 _ hg) harr₂⟩
  | none=>
   rw [hf] at hq
   have hg:gotoIn l (.inScope c::k)=gotoIn l k:=by simp [gotoIn,hf]
   exact ⟨_,a₁,w₁,hq,fun k' hk=>harr.1 k' (by rw [hg];exact hk),fun hr hk=>harr.2 hr (by rw [hg];exact hk)⟩
 | ret=>exact ⟨_,a₁,w₁,hq,harr⟩
 | panic ch=>exact ⟨_,a₁,w₁,hq,harr⟩
 | outgrown=>exact ⟨_,a₁,w₁,hq,harr⟩
theorem wp_scope {F:Fence} {n:Nat} {P:Program} {c:Code} {Q:Exit→Act→World→Prop} {a:Act} {w:World} (h:TaskWp F n P (.inScope c c) Q a w): TaskWp F n P (.code (.scope c)) Q a w:=by
 intro b k cs hro hb hr
 obtain ⟨e,a₁,w₁,hq,harr⟩:=h b k cs hro hb hr
 have hs:step P (lone (b.atR a (.code (.scope c)::k)) cs w)= .next (lone (b.atR a (.code c::.inScope c::k)) cs w):=step_lone_go (by simp [stepG,stepG.exec,Frame.atR])
 exact ⟨e,a₁,w₁,hq,.of_steps (.one (fenced_calm hb hr rfl) hs) harr⟩
theorem CO.post_ext {o:CO} {c:Ctx} {ρ ρ':Env} {e:Ending} {w:World} (hx:Ext ρ ρ') (h:o.post c ρ' e w): o.post c ρ e w:=by
 cases o<;>cases e<;>simp only [CO.post] at h⊢ <;>first
  | exact h
  | (obtain ⟨ρ2,h1,h2⟩:=h;exact ⟨ρ2,hx.trans h1,h2⟩)
  | (obtain ⟨ρ2,u,h0,h1,h2⟩:=h;exact ⟨ρ2,u,h0,hx.trans h1,h2⟩)
theorem roundPost_mono {P:Program} {l:Nat} {R R':Ending→World→Prop} {x:Exit} {a:Act} {w:World} (h:roundPost P l R x a w) (hm : ∀ e w,R e w→R' e w): roundPost P l R' x a w:=by
 cases x<;>simp only [roundPost] at h⊢ <;>first
  | exact h
  | (obtain ⟨v,w',h1,h2⟩:=h;exact ⟨v,w',h1,hm _ _ h2⟩)
theorem setParams_ok {ρ:Env} {nt:Nat}: ∀ (ps:List (Nat×AV)) (us:List (Nat×Value)) (t:Tr AV) (vs:Array Value),ps.map (·.1)=us.map (·.1)→VRs ρ (ps.map (·.2)) (us.map (·.2))→TmpR ρ t nt vs→
  TmpR ρ (setParams nt t ps) nt (us.foldl (fun tmps p=>tmps.setIfInBounds p.1 p.2) vs)
 | [],[],t,vs,_,_,h=>h
 | [],_::_,t,vs,h,_,_=>by simp at h
 | _::_,[],t,vs,h,_,_=>by simp at h
 | (i,a)::ps,(j,u)::us,t,vs,h1,h2,h=>by
  simp only [List.map_cons,List.cons.injEq] at h1
  obtain ⟨rfl,h1⟩:=h1
  simp only [List.map_cons,VRs.cons_iff] at h2
  simp only [setParams,List.foldl_cons]
  refine setParams_ok ps us _ _ h1 h2.2 ?_
  cases hi:Nat.blt i nt with
  | true=>rw [Nat.blt_eq] at hi;exact h.set h2.1 hi
  | false=>
   have hi' : ¬ i<nt:=fun e=>by rw [←Nat.blt_eq,hi] at e;cases e
   have:vs.setIfInBounds i u=vs:=by
    apply Array.ext'
    simp only [Array.toList_setIfInBounds]
    exact List.set_eq_of_length_le (by rw [Array.length_toList,h.1];exact Nat.le_of_not_lt hi')
   rw [this]
   exact h
include hX in
theorem endR_ok {l:Nat} {jump:Option Code} {kn:AV→AH→R} {s:St} (h:sem (endR X l jump kn s)): ∃ H',sem (kn (.bool jump.isNone) H')∧ ∀ c ρ w b N,Rel c ρ s.H w→ρ l=some (b,N)→ ∃ w',(Instr.endRound b jump).run P w= .ok (.bool jump.isNone) w'∧Rel c ρ H' w':=by
 unfold endR at h
 split at h
 ·rename_i st pd t nt ps as bd df hl
  refine ⟨_,h,fun c ρ w b N hr hb=>?_⟩
  have hblk:=hr.blk l
  rw [hl,hb] at hblk
  obtain ⟨b',N',d,M,fn,vs,e1,e2,e3,e4⟩:=hblk
  cases e1
  refine ⟨_,run_endRound jump e4,hr.turn _ (by rw [hl];rfl) hb (fun k hk=>World.putObj_heap_other hk) World.putObj_size rfl rfl rfl ?_⟩
  exact ⟨b,N,d,M,fn,vs,rfl,e2,e3,World.putObj_heap_same (Array.getElem?_eq_some_iff.1 e4).1⟩
 ·exact absurd h hX.fail
include hX in
theorem roundOf_ok {rec:Runner R} (hrec:RunOk P I sem rec): RounderOk P I sem (roundOf X rec):=by
 intro l args H kn h
 unfold roundOf at h
 split at h
 ·rename_i st pd t nt ps as bd df hl
  split at h
  ·rename_i hlen
   obtain ⟨e,h1,h2⟩:=hrec _ _ _ _ h
   cases e with
   | n s1=>
    simp only [AExit.sem] at h1
    split at h1
    ·rename_i pd1 t1 nt1 ps1 as1 bd1 df1 hl1
     obtain ⟨e2,h3,h4⟩:=hrec _ _ _ _ h1
     have fin : ∃ a H',sem (kn a H')∧ ∀ c ρ b N,ρ l=some (b,N)→ ∀ x a2 w2,e2.post c ρ x a2 w2→roundPost P b ((CO.ret a H').post c ρ) x a2 w2:=by
      cases e2 with
      | n s=>
       obtain ⟨H',k1,k2⟩:=endR_ok (P:=P) hX h3
       refine ⟨_,H',k1,fun c ρ b N hb x a2 w2 hp=>?_⟩
       cases x with
       | normal=>
        obtain ⟨ρ',hx,hr⟩:=hp
        obtain ⟨w',f1,f2⟩:=k2 c ρ' w2 b N hr.heap (hx _ _ hb)
        exact ⟨_,w',f1,ρ',hx,f2,by simp only [VR]⟩
       | _=>exact hp.elim
      | r s=>
       obtain ⟨H',k1,k2⟩:=endR_ok (P:=P) hX h3
       refine ⟨_,H',k1,fun c ρ b N hb x a2 w2 hp=>?_⟩
       cases x with
       | ret=>
        obtain ⟨ρ',hx,hr⟩:=hp
        obtain ⟨w',f1,f2⟩:=k2 c ρ' w2 b N hr.heap (hx _ _ hb)
        exact ⟨_,w',f1,ρ',hx,f2,by simp only [VR]⟩
       | _=>exact hp.elim
      | x i s=>
       obtain ⟨H',k1,k2⟩:=endR_ok (P:=P) hX h3
       refine ⟨_,H',k1,fun c ρ b N hb x a2 w2 hp=>?_⟩
       cases x with
       | exit id=>
        obtain ⟨rfl,ρ',hx,hr⟩:=hp
        obtain ⟨w',f1,f2⟩:=k2 c ρ' w2 b N hr.heap (hx _ _ hb)
        exact ⟨_,w',f1,ρ',hx,f2,by simp only [VR]⟩
       | _=>exact hp.elim
      | g i s=>
       obtain ⟨H',k1,k2⟩:=endR_ok (P:=P) hX h3
       refine ⟨_,H',k1,fun c ρ b N hb x a2 w2 hp=>?_⟩
       cases x with
       | goto id=>
        obtain ⟨rfl,ρ',hx,hr⟩:=hp
        obtain ⟨w',f1,f2⟩:=k2 c ρ' w2 b N hr.heap (hx _ _ hb)
        exact ⟨_,w',f1,ρ',hx,f2,by simp only [VR]⟩
       | _=>exact hp.elim
      | p v s=>exact absurd h3 hX.fail
     obtain ⟨a,H',k1,k2⟩:=fin
     refine ⟨a,H',k1,fun c ρ w vs b N hG hv hr hb=>?_⟩
     have hblk:=hr.blk l
     rw [hl,hb] at hblk
     obtain ⟨b',N',d,M,fn,us,f1,f2,f3,f4⟩:=hblk
     cases f1
     have hsz:vs.toArray.size=ps.toArray.size:=by simp [←hv.length_eq,hlen]
     refine ⟨_,_,_,_,run_yield f4 hsz,fun n=>roundIn_of_wpIn (F:=WF none) trivial ?_⟩
     have hst:SRel c ρ {t:=setParams nt t (ps.zip args),nt,H,df:=[]} {tmps:=(ps.toArray.zip vs.toArray).foldl (fun tmps (t,a)=>tmps.setIfInBounds t a) us,defers:=[]} w:=by
      refine ⟨?_,hr,rfl⟩
      have hl2:=hv.length_eq
      have:=setParams_ok (ps.zip args) (ps.zip vs) t us (by rw [List.map_fst_zip (by omega),List.map_fst_zip (by omega)]) (by rw [List.map_snd_zip (by omega),List.map_snd_zip (by omega)];exact hv) f3
      have e1:(ps.toArray.zip vs.toArray).foldl (fun tmps (x:Nat×Value)=>tmps.setIfInBounds x.1 x.2) us=(ps.zip vs).foldl (fun tmps p=>tmps.setIfInBounds p.1 p.2) us:=by
       rw [←Array.foldl_toList];simp
      rw [←e1] at this
      exact this
     refine wpIn_mono (h2 (some b) n c ρ _ w (fun h=>by cases h) hG hst) fun x a1 w1 hp=>?_
     cases x with
     | normal=>
      obtain ⟨ρ1,hx1,hr1⟩:=hp
      have hblk1:=hr1.heap.blk l
      rw [hl1,hx1 _ _ hb] at hblk1
      obtain ⟨b',N',d,M,fn,us,g1,g2,g3,g4⟩:=hblk1
      cases g1
      refine ⟨_,run_beginRound g4 rfl,?_⟩
      have hr2:Rel c ρ1 (s1.H.set l (.loop .busy pd1 t1 nt1 ps1 as1 bd1 df1)) (w1.putObj b (.loop {state:=.busy,pending:=pd1,fn:=fn,tmps:=us,params:=ps1.toArray,assign:=as1,body:=bd1,defers:=d})):=by
       refine hr1.heap.turn _ (by rw [hl1];rfl) (hx1 _ _ hb) (fun k hk=>World.putObj_heap_other hk) World.putObj_size rfl rfl rfl ?_
       exact ⟨b,N,d,M,fn,us,rfl,g2,g3,World.putObj_heap_same (Array.getElem?_eq_some_iff.1 g4).1⟩
      refine wpIn_mono (h4 (some b) n c ρ1 a1 _ (fun h=>by cases h) hG ⟨hr1.tmp,hr2,hr1.df⟩) fun x a2 w2 hp=>?_
      have:=k2 c ρ1 b N (hx1 _ _ hb) x a2 w2 hp
      exact roundPost_mono this fun e w' hq=>CO.post_ext hx1 hq
     | _=>exact hp.elim
    ·exact absurd h1 hX.fail
   | r s=>exact absurd h1 hX.fail
   | x i s=>exact absurd h1 hX.fail
   | g i s=>exact absurd h1 hX.fail
   | p v s=>exact absurd h1 hX.fail
  ·exact absurd h hX.fail
 ·exact absurd h hX.fail
end
end Go.Sx
end
