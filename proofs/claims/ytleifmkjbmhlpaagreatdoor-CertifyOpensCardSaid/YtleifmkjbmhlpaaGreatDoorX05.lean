/- CertifyOpens is proved, part 5. -/
import Derived.Test.YtleifmkjbmhlpaaGreatDoorX04
import Derived.Laws.Append
set_option linter.unusedVariables false
set_option linter.unusedSimpArgs false
set_option linter.unusedSectionVars false
section
namespace Go.Sx
open Go
structure OneTurn (r:Nat) (w w':World): Prop where
 other : ∀ k,k≠r→w'.heap[k]? =w.heap[k]?
 size:w'.heap.size=w.heap.size
 os:w'.os=w.os
 output:w'.output=w.output
 tape:w'.tape=w.tape
theorem OneTurn.refl (r:Nat) (w:World): OneTurn r w w:=⟨fun _ _=>rfl,rfl,rfl,rfl,rfl⟩
theorem OneTurn.trans {r:Nat} {a b c:World} (h:OneTurn r a b) (k:OneTurn r b c): OneTurn r a c :=
 ⟨fun i hi=>(k.other i hi).trans (h.other i hi),k.size.trans h.size,k.os.trans h.os,k.output.trans h.output,k.tape.trans h.tape⟩
theorem setCell_turn (w:World) (r o:Nat) (v:Value): OneTurn r w (w.setCell ⟨r,o,none⟩ v):=
 ⟨fun k hk=>by simp only [World.setCell,Array.getElem?_modify];rw [if_neg (fun e=>hk e.symm)],by simp [World.setCell],rfl,rfl,rfl⟩
theorem run_storeCells_us {P:Program} {r o:Nat}: ∀ (vs:List Value) (i:Nat) (w:World) (arr:List Value) (el:TypeId) (fr:Nat×Nat),w.heap[r]? =some (.cells arr.toArray el fr)→o+i+vs.length≤arr.length→
  (∀ q,q<arr.length→ ¬ (fr.1≤q∧q<fr.2))→(∀ v∈vs,v.oneCell'=true)→
  ∃ w',(storeCells ⟨r,o,none⟩ vs i).run P w= .ok () w'∧w'.heap[r]? =some (.cells (arr.take (o+i)++vs++arr.drop (o+i+vs.length)).toArray el fr)∧OneTurn r w w'
 | [],i,w,arr,el,fr,h,_,_,_=>⟨w,by simp [storeCells],by simpa using h,OneTurn.refl r w⟩
 | v::vs,i,w,arr,el,fr,h,hl,hf,hv=>by
  simp only [List.length_cons] at hl
  have hlt:o+i<arr.length:=by omega
  have hc:w.cell? ⟨r,o+i,none⟩=some arr[o+i]:=by
   simp only [World.cell?,h,Option.isSome_none,Bool.false_eq_true,if_false]
   rw [List.getElem?_toArray,List.getElem?_eq_getElem hlt]
  have hfz:w.frozen? ⟨r,o+i,none⟩=false:=by
   obtain ⟨lo,hi⟩:=fr
   have h5:=hf (o+i) hlt
   simp only [World.frozen?,h]
   simp only [Bool.and_eq_false_iff,decide_eq_false_iff_not]
   simp only at h5
   omega
  have h1:(w.setCell ⟨r,o+i,none⟩ v).heap[r]? =some (.cells (arr.set (o+i) v).toArray el fr):=by
   simp only [World.setCell,Array.getElem?_modify,if_true,h,Option.map_some,Option.isSome_none,Bool.false_eq_true,if_false,List.setIfInBounds_toArray]
  obtain ⟨w',e1,e2,e3⟩:=run_storeCells_us (P:=P) (r:=r) (o:=o) vs (i+1) _ (arr.set (o+i) v) el fr h1 (by simp;omega) (by simpa using hf) (fun u hu=>hv u (List.mem_cons_of_mem _ hu))
  refine ⟨w',?_,?_,(setCell_turn w r (o+i) v).trans e3⟩
  ·simp only [storeCells,Sem.run_bind,addr_add]
   rw [run_store P w _ v _ (hv v List.mem_cons_self)]
   simp only [hc,hfz,Bool.false_eq_true,if_false,Result.andThen_ok]
   exact e1
  ·rw [e2]
   congr 2
   have a1:o+(i+1)=o+i+1:=by omega
   rw [a1,List.take_set,List.drop_set_of_lt (show o+i<o+i+1+vs.length by omega),List.take_succ_eq_append_getElem hlt,List.set_append_right _ _ (by simp;omega)]
   simp [List.length_take,Nat.min_eq_left (Nat.le_of_lt hlt)]
   congr 1
   omega
def ABlk.put0 (b:ABlk) (k e j:Nat) (xs:List AV): Option (Bool×ABlk):=
 match b with
 | .cells cs a=>bif a.w then some (decide (k*e+j+xs.length≤cs.length),.cells (cs.take (k*e+j)++xs++cs.drop (k*e+j+xs.length)) a) else none
 | .rows m e' f a=>bif a.w then (if e=e'∧j+xs.length≤e' then some (decide (k<m),.rows m e' (fun i=>bif i==k then (f k).take j++xs++(f k).drop (j+xs.length) else f i) a) else none) else none
 | _=>none
def ABlk.put (b:ABlk) (k e j:Nat) (xs:List AV): Option (Bool×ABlk):=b.un.put0 k e j xs
theorem rowsOf_put {n e:Nat} {f:Nat→List AV} (h : ∀ i,i<n→(f i).length=e) {k j:Nat} (hk:k<n) {xs:List AV} (hj:j+xs.length≤e):
  rowsOf n (fun i=>bif i==k then (f k).take j++xs++(f k).drop (j+xs.length) else f i)=(rowsOf n f).take (k*e+j)++xs++(rowsOf n f).drop (k*e+j+xs.length):=by
 induction n with
 | zero=>omega
 | succ n ih=>
  have hl:=rowsOf_length (n:=n) (e:=e) (f:=f) (fun i hi=>h i (by omega))
  rw [rowsOf_succ,rowsOf_succ]
  by_cases hkn:k<n
  ·have hle:k*e+e≤n*e:=by
    have:=Nat.mul_le_mul_right e (show k+1≤n by omega)
    rw [Nat.succ_mul] at this;exact this
   rw [ih (fun i hi=>h i (by omega)) hkn]
   have:(n==k)=false:=by simp;omega
   rw [this,cond_false,List.take_append_of_le_length (by omega),List.drop_append_of_le_length (by omega)]
   simp only [List.append_assoc]
  ·have hkn:k=n:=by omega
   subst hkn
   have hsame:rowsOf k (fun i=>bif i==k then (f k).take j++xs++(f k).drop (j+xs.length) else f i)=rowsOf k f:=by
    unfold rowsOf
    rw [List.flatMap_def,List.flatMap_def]
    congr 1
    apply List.map_congr_left
    intro i hi
    have hi:=List.mem_range.1 hi
    have:(i==k)=false:=by simp;omega
    rw [this,cond_false]
   rw [hsame]
   simp only [BEq.rfl,cond_true]
   rw [List.take_append,List.drop_append,hl]
   have e1:k*e+j-k*e=j:=by omega
   have e2:k*e+j+xs.length-k*e=j+xs.length:=by omega
   rw [e1,e2,List.take_of_length_le (show (rowsOf k f).length≤k*e+j by omega),List.drop_of_length_le (show (rowsOf k f).length≤k*e+j+xs.length by omega)]
   simp
theorem CellsRel.store {ρ:Env} {P:Program} {w:World} {r N:Nat} {cs:List AV} {rw:Access} (h:CellsRel ρ w (some (r,N)) cs rw) (hrw:rw.w=true) {o:Nat} {xs:List AV} {us:List Value} (hx:VRs ρ xs us) (h1 : ∀ u∈us,u.oneCell'=true) (hl:o+xs.length≤cs.length):
  ∃ w',(storeCells ⟨r,o,none⟩ us).run P w= .ok () w'∧OneTurn r w w'∧CellsRel ρ w' (some (r,N)) (cs.take o++xs++cs.drop (o+xs.length)) rw:=by
 rcases h with ⟨_,h0⟩ | ⟨b,N',vs,rest,el,fr,e1,e2,e3,e4,e5,e6,e7⟩
 ·cases h0
 ·cases e1
  have hlen:=e4.length_eq
  have hxl:=hx.length_eq
  obtain ⟨w',f1,f2,f3⟩:=run_storeCells_us (P:=P) (o:=o) us 0 w (vs++rest) el fr e2 (by simp;omega) (by rw [e3];exact e5.w hrw) h1
  refine ⟨w',f1,f3,.inr ⟨_,_,vs.take o++us++vs.drop (o+us.length),rest,el,fr,rfl,?_,?_,?_,e5,fun v hv=>?_,fun e=>by rw [e] at hrw;cases hrw⟩⟩
  ·rw [f2]
   congr 2
   simp only [Nat.add_zero]
   rw [List.take_append_of_le_length (by omega),List.drop_append_of_le_length (by omega)]
   simp
  ·simp at e3⊢;omega
  ·rw [hxl]
   exact ((e4.take o).append hx).append (e4.drop _)
  ·simp only [List.mem_append] at hv
   rcases hv with (hv | hv) | hv
   ·exact e6 _ (List.mem_of_mem_take hv)
   ·exact h1 _ hv
   ·exact e6 _ (List.mem_of_mem_drop hv)
section
variable {R:Type} {X:RI R} {sem:R→Prop} (hX:X.Ok sem) {I:Info} {P:Program} (hI:I.Ok P)
def astore (X:RI R) (I:Info) (t:TypeId) (p v:AV) (H:AH) (K:AH→R): R :=
 match p,v.cells?,I.size t with
 | .ptr l k e j,some xs,some n=>
  if xs.length=n∧xs.all AV.one=true then
   match (H.get l).put k e j xs with
   | some (ok,b)=>X.assert ok (K (H.set l b))
   | none=>X.fail
  else X.fail
 | _,_,_=>X.fail
theorem ABlk.put_ok0 {ρ:Env} {P:Program} {w:World} {r N:Nat} {b b':ABlk} {k e j:Nat} {xs:List AV} {us:List Value} (h:BlkRel ρ w (some (r,N)) b) (hp:b.put0 k e j xs=some (true,b')) (hx:VRs ρ xs us) (h1:xs.all AV.one=true):
  b.rw=true∧ ∃ w',(storeCells ⟨r,k*e+j,none⟩ us).run P w= .ok () w'∧OneTurn r w w'∧BlkRel ρ w' (some (r,N)) b':=by
 unfold ABlk.put0 at hp
 split at hp
 ·rename_i cs a
  cases ha:a.w with
  | false=>rw [ha] at hp;cases hp
  | true=>
  rw [ha] at hp
  simp only [cond_true,Option.some.injEq,Prod.mk.injEq,decide_eq_true_eq] at hp
  obtain ⟨hl,rfl⟩:=hp
  exact ⟨ha,CellsRel.store h ha hx (VRs.ones hx h1) hl⟩
 ·rename_i m e' f a
  cases ha:a.w with
  | false=>rw [ha] at hp;cases hp
  | true=>
  rw [ha,cond_true] at hp
  split at hp
  ·rename_i hc
   obtain ⟨rfl,hj⟩:=hc
   simp only [Option.some.injEq,Prod.mk.injEq,decide_eq_true_eq] at hp
   obtain ⟨hk,rfl⟩:=hp
   have hle:k*e+e≤m*e:=by
    have:=Nat.mul_le_mul_right e (show k+1≤m by omega)
    rw [Nat.succ_mul] at this;exact this
   have hlen:=rowsOf_length h.1
   obtain ⟨w',f1,f2,f3⟩:=CellsRel.store (P:=P) h.2 ha (o:=k*e+j) hx (VRs.ones hx h1) (by omega)
   refine ⟨ha,w',f1,f2,fun i hi=>?_,?_⟩
   ·by_cases hik:i=k
    ·subst hik
     simp [h.1 i hk];omega
    ·have:(i==k)=false:=by simp [hik]
     simp only [this,cond_false]
     exact h.1 i hi
   ·rw [rowsOf_put h.1 hk hj]
    exact f3
  ·cases hp
 ·cases hp
theorem ABlk.put_ok {ρ:Env} {P:Program} {w:World} {r N:Nat} {b b':ABlk} {k e j:Nat} {xs:List AV} {us:List Value} (h:BlkRel ρ w (some (r,N)) b) (hp:b.put k e j xs=some (true,b')) (hx:VRs ρ xs us) (h1:xs.all AV.one=true):
  b.rw=true∧ ∃ w',(storeCells ⟨r,k*e+j,none⟩ us).run P w= .ok () w'∧OneTurn r w w'∧BlkRel ρ w' (some (r,N)) b':=by
 rw [←ABlk.un_rw]
 exact ABlk.put_ok0 h.un hp hx h1
include hX hI in
theorem astore_ok {t:TypeId} {p v:AV} {H:AH} {K:AH→R} (h:sem (astore X I t p v H K)):
  ∃ H',sem (K H')∧ ∀ c ρ w pv vv,VR ρ p pv→VR ρ v vv→Rel c ρ H w→ ∃ w',(Instr.storeAt t pv vv).run P w= .ok () w'∧Rel c ρ H' w':=by
 unfold astore at h
 split at h
 ·rename_i l k e j xs n hc hn
  split at h
  ·rename_i hcond
   obtain ⟨hlen,hone⟩:=hcond
   split at h
   ·rename_i ok b hput
    obtain ⟨rfl,hK⟩:=hX.assert _ _ h
    refine ⟨_,hK,fun c ρ w pv vv hp hv hr=>?_⟩
    simp only [VR] at hp
    obtain ⟨r,N,hb,rfl⟩:=hp
    have hx:=VR.cells hv hc
    have hblk:=hr.blk l
    rw [hb] at hblk
    obtain ⟨hrw,w',f1,f2,f3⟩:=ABlk.put_ok (P:=P) hblk hput hx hone
    have hsz:vv.cells.size=n:=by rw [←Array.length_toList,←hx.length_eq,hlen]
    refine ⟨w',?_,hr.turn b hrw hb f2.other f2.size f2.os f2.output f2.tape f3⟩
    simp only [Instr.storeAt,Instr.sureAddr,storeVar,Sem.run_bind,Sem.run_pure,Result.andThen_ok,hI.run_size w hn,hsz,ne_eq,not_true,if_false]
    exact f1
   ·exact absurd h hX.fail
  ·exact absurd h hX.fail
 ·exact absurd h hX.fail
end
end Go.Sx
end
section
namespace Go.Sx
open Go
def aview (H:AH) (e:Nat): AV→Option (Bool×Nat×(Nat→List AV)×Bool)
 | .slice l base k len _ e'=>
  if e=e'∧0<e then
   match (H.get l).un with
   | .cells cs _=>some (decide (base+k*e+len*e≤cs.length),len,fun i=>(cs.drop (base+k*e+i*e)).take e,true)
   | .rows m e1 f _=>if e1=e∧base=0 then some (decide (k+len≤m),len,fun i=>f (k+i),false) else none
   | _=>none
  else none
 | .own l len e'=>
  if e=e'∧0<e then
   match (H.get l).un with
   | .cells cs _=>some (decide (len*e≤cs.length),len,fun i=>(cs.drop (i*e)).take e,true)
   | .rows m e1 f _=>if e1=e then some (decide (len≤m),len,f,false) else none
   | _=>none
  else none
 | .nilSlice=>if 0<e then some (true,0,fun _=>[],true) else none
 | .fslice len e' f=>if e=e'∧0<e then some (true,len,f,false) else none
 | .str s=>if e=1 then some (true,s.length,fun i=>[.int .u8 (s.getD i 0).toNat],false) else none
 | _=>none
theorem rowsOf_congr {n:Nat} {f g:Nat→List AV} (h : ∀ i,i<n→f i=g i): rowsOf n f=rowsOf n g:=by
 unfold rowsOf
 rw [List.flatMap_def,List.flatMap_def]
 congr 1
 exact List.map_congr_left fun i hi=>h i (List.mem_range.1 hi)
theorem rowsOf_cut {cs:List AV} {o e:Nat} (he:0<e): ∀ {n:Nat},o+n*e≤cs.length→rowsOf n (fun i=>(cs.drop (o+i*e)).take e)=(cs.drop o).take (n*e)
 | 0,_=>by simp [rowsOf]
 | n+1,h=>by
  rw [Nat.succ_mul] at h
  rw [rowsOf_succ,rowsOf_cut he (by omega),Nat.succ_mul,List.take_add,List.drop_drop]
theorem rowsOf_shift {m:Nat} {f:Nat→List AV}: ∀ {n k:Nat},k+n≤m→ ∃ a b,rowsOf m f=a++rowsOf n (fun i=>f (k+i))++b∧a=rowsOf k f
 | n,k,h=>by
  obtain ⟨d,rfl⟩: ∃ d,m=k+n+d:=⟨m-(k+n),by omega⟩
  refine ⟨rowsOf k f,rowsOf d (fun i=>f (k+n+i)),?_,rfl⟩
  have add : ∀ a b (g:Nat→List AV),rowsOf (a+b) g=rowsOf a g++rowsOf b (fun i=>g (a+i)):=by
   intro a b g
   induction b with
   | zero=>simp [rowsOf]
   | succ b ih=>rw [←Nat.add_assoc,rowsOf_succ,ih,rowsOf_succ,List.append_assoc]
  rw [add (k+n) d f,add k n f]
theorem rowsOf_add (a b:Nat) (g:Nat→List AV): rowsOf (a+b) g=rowsOf a g++rowsOf b (fun i=>g (a+i)):=by
 induction b with
 | zero=>simp [rowsOf]
 | succ b ih=>rw [←Nat.add_assoc,rowsOf_succ,ih,rowsOf_succ,List.append_assoc]
theorem CellsRel.read {ρ:Env} {P:Program} {w:World} {r N:Nat} {cs:List AV} {rw:Access} (h:CellsRel ρ w (some (r,N)) cs rw) {o n:Nat} (hl:o+n≤cs.length):
  o+n≤N∧ ∃ us:List Value,VRs ρ ((cs.drop o).take n) us∧us.length=n∧(∀ v∈us,v.oneCell'=true)∧ ∀ d,(loadCells ⟨r,o,none⟩ n).run P {w with drawn:=d}= .ok us.toArray {w with drawn:=d}:=by
 rcases h with ⟨_,h0⟩ | ⟨b,N',vs,rest,el,fr,e1,e2,e3,e4,e5,e6,e7⟩
 ·cases h0
 ·cases e1
  have hlen:=e4.length_eq
  simp only [List.length_append] at e3
  refine ⟨by omega,(vs.drop o).take n,(e4.drop o).take n,by simp;omega,fun v hv=>e6 v (List.mem_of_mem_drop (List.mem_of_mem_take hv)),fun d=>?_⟩
  have hn:((vs.drop o).take n).length=n:=by simp;omega
  have key:=run_loadCells_us (P:=P) (w:={w with drawn:=d}) (us:=(vs.drop o).take n) (r:=r) (o:=o) fun i v hv=>by
   have hi:i<n:=by
    have:=(List.getElem?_eq_some_iff.1 hv).1
    omega
   rw [List.getElem?_take_of_lt hi,List.getElem?_drop] at hv
   have:({w with drawn:=d}: World).heap[r]? =some (.cells (vs++rest).toArray el fr):=e2
   simp only [World.cell?,this,Option.isSome_none,Bool.false_eq_true,if_false,List.getElem?_toArray]
   rw [List.getElem?_append_left (by omega)]
   exact hv
  rw [hn] at key
  exact key
theorem aview_ok {P:Program} {H:AH} {e:Nat} {x:AV} {len:Nat} {f:Nat→List AV} {cl:Bool} (h:aview H e x=some (true,len,f,cl)) {c:Ctx} {ρ:Env} {w:World} {v:Value} (hv:VR ρ x v) (hr:Rel c ρ H w):
  (∀ i,i<len→(f i).length=e)∧(Builtin.lenOf v).run P w= .ok len w∧ ∀ n,n≤len→ ∃ us:List Value,VRs ρ (rowsOf n f) us∧us.length=n*e∧(∀ v∈us,v.oneCell'=true)∧ ∀ d,(Builtin.firstCells e n v).run P {w with drawn:=d}= .ok us.toArray {w with drawn:=d}:=by
 cases x with
 | slice l base k len' cap e'=>
  simp only [aview] at h
  split at h
  ·rename_i he
   obtain ⟨rfl,hpos⟩:=he
   simp only [VR] at hv
   obtain ⟨b,N,cc,a,hb,rfl,hl,hcc,_⟩:=hv
   have hblk:=(hr.blk l).un
   rw [hb] at hblk
   split at h
   ·rename_i cs rw hcs
    rw [hcs] at hblk
    simp only [Option.some.injEq,Prod.mk.injEq,decide_eq_true_eq] at h
    obtain ⟨hle,rfl,rfl,rfl⟩:=h
    refine ⟨fun i hi=>?_,by simp [Builtin.lenOf],fun n hn=>?_⟩
    ·have:i*e+e≤len'*e:=by
      have:=Nat.mul_le_mul_right e (show i+1≤len' by omega)
      rw [Nat.succ_mul] at this;exact this
     simp;omega
    ·by_cases hn0:n=0
     ·subst hn0
      refine ⟨[],by simp [rowsOf,VRs],by simp,by simp,fun d=>?_⟩
      simp [Builtin.firstCells,loadCells,loadCellsFrom]
     ·obtain ⟨rfl,_⟩:=hcc (by omega)
      have hne:n*e≤len'*e:=Nat.mul_le_mul_right e hn
      obtain ⟨_,us,h1,h2,h1s,h3⟩:=CellsRel.read (P:=P) hblk (o:=base+k*e) (n:=n*e) (by omega)
      exact ⟨us,by rw [rowsOf_cut hpos (by omega)];exact h1,h2,h1s,fun d=>by simpa [Builtin.firstCells] using h3 d⟩
   ·rename_i m e1 g rw hcs
    rw [hcs] at hblk
    split at h
    ·rename_i hc
     obtain ⟨rfl,rfl⟩:=hc
     simp only [Option.some.injEq,Prod.mk.injEq,decide_eq_true_eq] at h
     obtain ⟨hle,rfl,rfl,rfl⟩:=h
     refine ⟨fun i hi=>hblk.1 _ (by omega),by simp [Builtin.lenOf],fun n hn=>?_⟩
     by_cases hn0:n=0
     ·subst hn0
      refine ⟨[],by simp [rowsOf,VRs],by simp,by simp,fun d=>?_⟩
      simp [Builtin.firstCells,loadCells,loadCellsFrom]
     ·obtain ⟨rfl,_⟩:=hcc (by omega)
      obtain ⟨a,t,e2,e3⟩:=rowsOf_shift (m:=m) (f:=g) (n:=n) (k:=k) (by omega)
      have hla:a.length=k*e1:=by rw [e3];exact rowsOf_length fun i hi=>hblk.1 i (by omega)
      have hln:(rowsOf n fun i=>g (k+i)).length=n*e1:=rowsOf_length fun i hi=>hblk.1 _ (by omega)
      have hcut:((rowsOf m g).drop (k*e1)).take (n*e1)=rowsOf n (fun i=>g (k+i)):=by
       rw [e2,List.append_assoc,List.drop_append_of_le_length (by omega),List.drop_of_length_le (by omega),List.nil_append,List.take_append_of_le_length (by omega),List.take_of_length_le (by omega)]
      obtain ⟨_,us,h1,h2,h1s,h3⟩:=CellsRel.read (P:=P) hblk.2 (o:=k*e1) (n:=n*e1) (by rw [e2];simp;omega)
      rw [hcut] at h1
      exact ⟨us,h1,h2,h1s,fun d=>by simpa [Builtin.firstCells] using h3 d⟩
    ·cases h
   ·cases h
  ·cases h
 | own l len' e'=>
  simp only [aview] at h
  split at h
  ·rename_i he
   obtain ⟨rfl,hpos⟩:=he
   simp only [VR] at hv
   have hblk:=(hr.blk l).un
   split at h
   ·rename_i cs rw hcs
    rw [hcs] at hblk
    simp only [Option.some.injEq,Prod.mk.injEq,decide_eq_true_eq] at h
    obtain ⟨hle,rfl,rfl,rfl⟩:=h
    refine ⟨fun i hi=>?_,?_,fun n hn=>?_⟩
    ·have:i*e+e≤len'*e:=by
      have:=Nat.mul_le_mul_right e (show i+1≤len' by omega)
      rw [Nat.succ_mul] at this;exact this
     simp;omega
    ·rcases hv with ⟨rfl,rfl⟩ | ⟨_,_,_,_,rfl,_⟩<;>simp [Builtin.lenOf]
    ·rcases hv with ⟨rfl,rfl⟩ | ⟨b,N,cc,hb,rfl,hl,hcc⟩
     ·have:n=0:=by omega
      subst this
      exact ⟨[],by simp [rowsOf,VRs],by simp,by simp,fun d=>by simp [Builtin.firstCells]⟩
     ·rw [hb] at hblk
      have hne:n*e≤len'*e:=Nat.mul_le_mul_right e hn
      obtain ⟨_,us,h1,h2,h1s,h3⟩:=CellsRel.read (P:=P) hblk (o:=0) (n:=n*e) (by omega)
      refine ⟨us,?_,h2,h1s,fun d=>by simpa [Builtin.firstCells] using h3 d⟩
      have:=rowsOf_cut (cs:=cs) (o:=0) hpos (n:=n) (by omega)
      simp only [Nat.zero_add] at this
      rw [this];exact h1
   ·rename_i m e1 g rw hcs
    rw [hcs] at hblk
    split at h
    ·rename_i hc
     subst hc
     simp only [Option.some.injEq,Prod.mk.injEq,decide_eq_true_eq] at h
     obtain ⟨hle,rfl,rfl,rfl⟩:=h
     refine ⟨fun i hi=>hblk.1 _ (by omega),?_,fun n hn=>?_⟩
     ·rcases hv with ⟨rfl,rfl⟩ | ⟨_,_,_,_,rfl,_⟩<;>simp [Builtin.lenOf]
     ·rcases hv with ⟨rfl,rfl⟩ | ⟨b,N,cc,hb,rfl,hl,hcc⟩
      ·have:n=0:=by omega
       subst this
       exact ⟨[],by simp [rowsOf,VRs],by simp,by simp,fun d=>by simp [Builtin.firstCells]⟩
      ·rw [hb] at hblk
       obtain ⟨a,t,e2,e3⟩:=rowsOf_shift (m:=m) (f:=g) (n:=n) (k:=0) (by omega)
       have hla:a=[]:=by rw [e3];rfl
       subst hla
       simp only [List.nil_append,Nat.zero_add] at e2
       replace e2:rowsOf m g=rowsOf n g++t:=e2
       have hln:(rowsOf n g).length=n*e1:=rowsOf_length fun i hi=>hblk.1 _ (by omega)
       obtain ⟨_,us,h1,h2,h1s,h3⟩:=CellsRel.read (P:=P) hblk.2 (o:=0) (n:=n*e1) (by rw [e2];simp;omega)
       refine ⟨us,?_,h2,h1s,fun d=>by simpa [Builtin.firstCells] using h3 d⟩
       rw [List.drop_zero,e2,List.take_append_of_le_length (by omega),List.take_of_length_le (by omega)] at h1
       exact h1
    ·cases h
   ·cases h
  ·cases h
 | fslice len' e1 g=>
  simp only [aview] at h
  split at h
  ·rename_i he
   obtain ⟨rfl,hpos⟩:=he
   simp only [Option.some.injEq,Prod.mk.injEq,true_and] at h
   obtain ⟨rfl,rfl,rfl⟩:=h
   simp only [VR] at hv
   refine ⟨fun i hi=>?_,?_,fun n hn=>?_⟩
   ·rcases hv with ⟨rfl,_⟩ | ⟨b,q,cc,a,vss,rfl,hl,hcc⟩
    ·omega
    ·obtain ⟨rfl,hv1,hv2⟩:=hcc (by omega)
     rw [(hv2 i hi).2.length_eq];exact (hv2 i hi).1
   ·rcases hv with ⟨rfl,rfl⟩ | ⟨_,_,_,_,_,rfl,_⟩<;>simp [Builtin.lenOf]
   ·by_cases hn0:n=0
    ·subst hn0
     refine ⟨[],by simp [rowsOf,VRs],by simp,by simp,fun d=>?_⟩
     rcases hv with ⟨rfl,rfl⟩ | ⟨_,_,_,_,_,rfl,_⟩<;>simp [Builtin.firstCells,loadCells,loadCellsFrom]
    ·rcases hv with ⟨rfl,_⟩ | ⟨b,q,cc,a,vss,rfl,hl,hcc⟩
     ·omega
     obtain ⟨rfl,hv1,hv2⟩:=hcc (by omega)
     have hv3:=hv1.part (fun i hi=>(hv2 i hi).1) (k:=0) (m:=n) (by omega)
     simp only [Nat.zero_mul,Nat.add_zero,Nat.zero_add] at hv3
     have hlen : ∀ i,i<n→(g i).length=e:=fun i hi=>by rw [(hv2 i (by omega)).2.length_eq];exact (hv2 i (by omega)).1
     have hvr:=VRs.flat (n:=n) fun i hi=>VRs.ext (Ext.of_bare ρ) _ _ (hv2 i (by omega)).2
     have hln:(rowsOf n g).length=n*e:=rowsOf_length hlen
     have hus:((List.range n).flatMap vss).length=n*e:=by rw [←hvr.length_eq];exact hln
     refine ⟨(List.range n).flatMap vss,hvr,hus,hv3.1,fun d=>?_⟩
     have key:=run_loadCells_us (P:=P) (w:={w with drawn:=d}) (us:=(List.range n).flatMap vss) (r:=b) (o:=q) fun i v hv=>FzC.cell hr hv3 i v hv
     rw [hus] at key
     simpa [Builtin.firstCells] using key
  ·cases h
 | nilSlice=>
  simp only [aview] at h
  split at h
  ·simp only [Option.some.injEq,Prod.mk.injEq,true_and] at h
   obtain ⟨rfl,rfl,rfl⟩:=h
   simp only [VR] at hv
   subst hv
   refine ⟨fun i hi=>by omega,by simp [Builtin.lenOf],fun n hn=>⟨[],?_,?_,by simp,fun d=>?_⟩⟩
   ·have:n=0:=by omega
    subst this;simp [rowsOf,VRs]
   ·have:n=0:=by omega
    simp [this]
   ·simp [Builtin.firstCells]
  ·cases h
 | str s=>
  simp only [aview] at h
  split at h
  ·rename_i he
   subst he
   simp only [Option.some.injEq,Prod.mk.injEq,true_and] at h
   obtain ⟨rfl,rfl,rfl⟩:=h
   simp only [VR] at hv
   subst hv
   have hrows : ∀ i,i<s.length→((fun i=>[AV.int .u8 (s.getD i 0).toNat]) i).length=1:=fun i _=>rfl
   refine ⟨hrows,by simp [Builtin.lenOf,ByteArray.size],fun n hn=>⟨(s.take n).map fun b=>Value.int .u8 b.toNat,?_,by simp;omega,fun v hv=>by (simp only [List.mem_map] at hv;obtain ⟨_,_,rfl⟩:=hv;rfl),fun d=>?_⟩⟩
   ·refine VRs.of_get (by rw [rowsOf_length (e:=1) (fun i hi=>hrows i (by omega))];simp;omega) fun i a v h1 h2=>?_
    have hi:i<n:=by
     have:=(List.getElem?_eq_some_iff.1 h2).1
     simp at this;omega
    rw [rowsOf_one (fun i hi=>hrows i (by omega)) hi rfl] at h1
    cases h1
    simp only [List.getElem?_map,List.getElem?_take_of_lt hi,List.getElem?_eq_getElem (show i<s.length by omega),Option.map_some,Option.some.injEq] at h2
    subst h2
    simp [VR,List.getD_eq_getElem?_getD,List.getElem?_eq_getElem (show i<s.length by omega)]
   ·simp only [Builtin.firstCells,Sem.run_pure]
    congr 1
    apply Array.ext'
    simp [List.extract_eq_take_drop]
  ·cases h
 | _=>simp [aview] at h
end Go.Sx
end
section
namespace Go.Sx
open Go
theorem Rel.moved {c:Ctx} {ρ:Env} {H:AH} {w w':World} (h:Rel c ρ H w) {l r N:Nat} (b:ABlk) (hrw:(H.get l).rw=true) (hr:ρ l=some (r,N)) (ht:OneTurn r w w')
  (hb:BlkRel (ρ.put H.n (r,N)) w' (some (r,N)) b): Ext ρ (ρ.put H.n (r,N))∧Rel c (ρ.put H.n (r,N)) ((H.set l .dead).new b) w':=by
 have hn:ρ H.n=none:=h.top _ (Nat.le_refl _)
 have hx:=Env.ext_put (r,N) hn
 have hln:l≠H.n:=fun e=>by rw [e,hn] at hr;cases hr
 have hget : ∀ i,i≠H.n→i≠l→((H.set l .dead).new b).get i=H.get i:=fun i h1 h2=>by
  rw [show H.n=(H.set l .dead).n from rfl] at h1
  rw [AH.get_new_ne _ _ h1,AH.get_set_ne _ _ (fun e=>h2 e.symm)]
 have hgn:((H.set l .dead).new b).get H.n=b:=AH.get_new_same (H.set l .dead) b
 have hgl:((H.set l .dead).new b).get l= .dead:=by
  rw [AH.get_new_ne _ _ (show l≠(H.set l .dead).n from hln)]
  exact AH.get_set_same H .dead l
 have old : ∀ i,i≠H.n→i≠l→H.get i≠ .dead→ ∀ r' M,ρ i=some (r',M)→r'≠r:=fun i h1 h2 h3 r' M e e'=>by
  subst e'
  exact h3 (h.sep l i r' N M (fun e=>h2 e.symm) hrw hr e)
 refine ⟨hx,⟨fun i=>?_,fun i i' q M M' hne hw1 h1 h2=>?_,fun i q M hw1 h1=>?_,fun k hk=>?_,?_,ht.os.trans h.os,ht.output.trans h.output,ht.tape.trans h.tape,fun i hi=>?_,fun g hg=>?_,fun i q M hd h1=>?_,fun i hi=>?_,fun i hi=>?_,fun k vs e=>?_,fun i q M hw1 h1=>?_,h.frx,h.frk⟩⟩
 ·by_cases hi:i=H.n
  ·subst hi;rw [hgn,Env.put_same];exact hb
  ·rw [Env.put_ne _ _ hi]
   by_cases hil:i=l
   ·subst hil;rw [hgl];trivial
   ·rw [hget i hi hil]
    by_cases hd:H.get i= .dead
    ·rw [hd];trivial
    ·exact BlkRel.world (fun r' M e=>ht.other r' (old i hi hil hd r' M e)) ((h.blk i).ext hx)
 ·by_cases hi:i=H.n
  ·subst hi
   rw [Env.put_same] at h1;cases h1
   have hi':i'≠H.n:=fun e=>hne e.symm
   rw [Env.put_ne _ _ hi'] at h2
   by_cases hil:i'=l
   ·subst hil;exact hgl
   ·rw [hget i' hi' hil]
    exact h.sep l i' r N M' (fun e=>hil e.symm) hrw hr h2
  ·rw [Env.put_ne _ _ hi] at h1
   by_cases hil:i=l
   ·subst hil;rw [hgl] at hw1;cases hw1
   ·rw [hget i hi hil] at hw1
    have hd:H.get i≠ .dead:=fun e=>by rw [e] at hw1;cases hw1
    by_cases hi':i'=H.n
    ·subst hi'
     rw [Env.put_same] at h2;cases h2
     exact absurd rfl (old i hi hil hd r M h1)
    ·rw [Env.put_ne _ _ hi'] at h2
     by_cases hil':i'=l
     ·subst hil';exact hgl
     ·rw [hget i' hi' hil']
      exact h.sep i i' q M M' hne hw1 h1 h2
 ·by_cases hi:i=H.n
  ·subst hi
   rw [Env.put_same] at h1;cases h1
   exact h.prot l r N hrw hr
  ·rw [Env.put_ne _ _ hi] at h1
   by_cases hil:i=l
   ·subst hil;rw [hgl] at hw1;cases hw1
   ·rw [hget i hi hil] at hw1
    exact h.prot i q M hw1 h1
 ·obtain ⟨h1,h2⟩:=h.keep k hk
  refine ⟨h1,?_⟩
  rw [←h2]
  refine ht.other k fun e=>?_
  subst e
  exact hk.elim (h.prot l k N hrw hr) (h.hid l k N (fun e=>by rw [e] at hrw;cases hrw) hr)
 ·rw [ht.size];exact h.size
 ·have hi2:H.n+1≤i:=hi
  rw [Env.put_ne _ _ (by omega)]
  exact h.top i (by omega)
 ·obtain ⟨M,hM⟩:=h.glob g hg
  exact ⟨M,hx _ _ hM⟩
 ·by_cases hi:i=H.n
  ·subst hi
   rw [Env.put_same] at h1;cases h1
   exact h.hid l r N (fun e=>by rw [e] at hrw;cases hrw) hr
  ·rw [Env.put_ne _ _ hi] at h1
   by_cases hil:i=l
   ·subst hil;exact absurd hgl hd
   ·rw [hget i hi hil] at hd
    exact h.hid i q M hd h1
 ·obtain ⟨h1,h2⟩:=h.env i hi
  exact ⟨by simp;omega,by rw [Env.put_ne _ _ (by omega)];exact h2⟩
 ·have hi2:H.n+1≤i:=hi
  have:=h.belowRw hrw
  rw [hget i (by omega) (by omega)]
  exact h.low i (by omega)
 ·obtain ⟨el,fr,e2⟩:=h.fro k vs e
  refine ⟨el,fr,(ht.other k fun e'=>?_).trans e2⟩
  subst e'
  have:=h.frw l k N hrw hr
  rw [Env.put_fz,this] at e;cases e
 ·by_cases hi:i=H.n
  ·subst hi
   rw [Env.put_same] at h1;cases h1
   exact h.frw l r N hrw hr
  ·rw [Env.put_ne _ _ hi] at h1
   by_cases hil:i=l
   ·subst hil;rw [hgl] at hw1;cases hw1
   ·rw [hget i hi hil] at hw1
    exact h.frw i q M hw1 h1
theorem killNew {c:Ctx} {ρ:Env} {w:World} {H:AH} {l:Nat} {b:ABlk} (hl:l<H.n) (h:Rel c ρ (H.new b) w): Rel c ρ ((H.set l .dead).new b) w:=by
 refine (h.kill l).congr rfl fun i=>?_
 rw [AH.get_new,AH.get_set,AH.get_set,AH.get_new]
 by_cases h1:i=H.n
 ·have : ¬ i=l:=by omega
  simp [h1,AH.set_n]
  omega
 ·by_cases h2:i=l
  ·subst h2;simp [AH.set_n,h1]
  ·simp [AH.set_n,h1,h2]
section
variable {R:Type} {X:RI R} {sem:R→Prop} (hX:X.Ok sem) {I:Info} {P:Program} (hI:I.Ok P)
def joined (bo:Option (List UInt8)) (n1 n2 sz:Nat) (f1 f2:Nat→List AV) (cl:Bool) (a:Access): ABlk :=
 match bo with | some bs=> .str bs a | none=>bif cl then .cells (rowsOf n1 f1++rowsOf n2 f2) a else .rows (n1+n2) sz (fun i=>bif Nat.blt i n1 then f1 i else f2 (i-n1)) a
def ABlk.acc:ABlk→Access
 | .cells _ a=>a
 | .rows _ _ _ a=>a
 | .str _ a=>a
 | .dead=> .ro
 | .map es=>match isMark es with | true=> .ro | false=> .wr
 | _=> .wr
theorem ABlk.un_acc (b:ABlk): b.un.acc=b.acc:=by cases b<;>rfl
theorem ABlk.acc_w (b:ABlk): b.acc.w=b.rw:=by
 cases b with
 | map es=>
  show (match isMark es with | true=>Access.ro | false=>Access.wr).w=!isMark es
  cases isMark es<;>rfl
 | _=>rfl
def Access.meet (e:TypeId): Access→Access
 | .ty e'=>bif Nat.beq e' e then .ty e else .wr
 | _=> .wr
theorem Access.meet_ro {e:TypeId} {a:Access}: a.meet e≠ .ro:=by
 unfold Access.meet
 split
 ·cases Nat.beq _ e<;>simp
 ·simp
theorem Access.meet_ty {e e':TypeId} {a:Access} (h:a.meet e= .ty e'): e=e'∧a= .ty e:=by
 unfold Access.meet at h
 split at h
 ·rename_i e2
  cases hb:Nat.beq e2 e with
  | true=>
   rw [hb] at h
   have:=Nat.eq_of_beq_eq_true hb
   subst this
   cases h
   exact ⟨rfl,rfl⟩
  | false=>rw [hb] at h;cases h
 ·cases h
theorem AccOk.meet {a:Access} {el e:TypeId} {fr:Nat×Nat} {N:Nat} (h:AccOk a el fr N) (hw:a.w=true): AccOk (a.meet e) el fr N :=
 ⟨fun _=>h.w hw,fun e' he=>by
  obtain ⟨rfl,rfl⟩:=Access.meet_ty he
  exact h.ty _ rfl⟩
theorem AccOk.fresh {a:Access} {e:TypeId} {N:Nat} (h : ∀ e',a= .ty e'→e=e'): AccOk a e (0,0) N:=⟨fun _ i _ hh=>by simp at hh,fun e' he=>h e' he⟩
theorem rowsOf_joined (n1 n2:Nat) (f1 f2:Nat→List AV): rowsOf (n1+n2) (fun i=>bif Nat.blt i n1 then f1 i else f2 (i-n1))=rowsOf n1 f1++rowsOf n2 f2:=by
 rw [rowsOf_add]
 congr 1
 ·exact rowsOf_congr fun i hi=>by
   have:Nat.blt i n1=true:=by rw [Nat.blt_eq];exact hi
   rw [this];rfl
 ·exact rowsOf_congr fun i hi=>by
   have:Nat.blt (n1+i) n1=false:=by rw [Bool.eq_false_iff];intro e;rw [Nat.blt_eq] at e;omega
   rw [this,cond_false]
   congr 1
   omega
theorem joined_ok {ρ:Env} {w:World} {bo:Option (List UInt8)} {r N n1 n2 sz:Nat} {f1 f2:Nat→List AV} {cl:Bool} {a:Access} (h1 : ∀ i,i<n1→(f1 i).length=sz) (h2 : ∀ i,i<n2→(f2 i).length=sz)
  (h:CellsRel ρ w (some (r,N)) (rowsOf n1 f1++rowsOf n2 f2) a) (hbo : ∀ bs,bo=some bs→rowsOf n1 f1++rowsOf n2 f2=byteCells bs): BlkRel ρ w (some (r,N)) (joined bo n1 n2 sz f1 f2 cl a):=by
 unfold joined
 cases bo with
 | some bs=>show CellsRel _ _ _ _ _;rw [←hbo bs rfl];exact h
 | none=>
 cases cl with
 | true=>exact h
 | false=>
  refine ⟨fun i hi=>?_,by rw [rowsOf_joined];exact h⟩
  by_cases hlt:i<n1
  ·have:Nat.blt i n1=true:=by rw [Nat.blt_eq];exact hlt
   simp only [this,cond_true];exact h1 i hlt
  ·have:Nat.blt i n1=false:=by rw [Bool.eq_false_iff];intro e;rw [Nat.blt_eq] at e;omega
   simp only [this,cond_false];exact h2 _ (by omega)
theorem joined_none {ρ:Env} {w:World} {bo:Option (List UInt8)} {sz:Nat} {f1 f2:Nat→List AV} {cl:Bool} {a:Access} (hbo : ∀ bs,bo=some bs→rowsOf 0 f1++rowsOf 0 f2=byteCells bs): BlkRel ρ w none (joined bo 0 0 sz f1 f2 cl a):=by
 unfold joined
 cases bo with
 | some bs=>exact .inl ⟨(hbo bs rfl).symm,rfl⟩
 | none=>
  cases cl
  ·exact ⟨fun i hi=>absurd hi (Nat.not_lt_zero _),.inl ⟨by simp [rowsOf],rfl⟩⟩
  ·exact .inl ⟨by simp [rowsOf],rfl⟩
def ownLabel:AV→Option Nat
 | .own l _ _=>some l
 | .slice l 0 0 _ _ _=>some l
 | _=>none
def srcOk:TypeDesc→Bool
 | .slice _ | .string=>true
 | _=>false
def inplace (X:RI R) (e:TypeId) (s:AV) (n sz:Nat) (blk:Access→ABlk) (H:AH) (K:AV→AH→R): R :=
 match ownLabel s with
 | some l=>match (H.get l).rw with
  | true=>K (.own H.n n sz) ((H.set l .dead).new (blk ((H.get l).acc.meet e)))
  | false=>X.fail
 | none=>X.fail
def abytesD (H:AH): AV→Option (Bool×List UInt8)
 | .nilSlice=>some (true,[])
 | .own l n 1=>match H.get l with
  | .str b _=>some (decide (n=b.length),b)
  | _=>none
 | .slice l 0 0 n _ 1=>match H.get l with
  | .str b _=>some (decide (n=b.length),b)
  | _=>none
 | _=>none
def abytesS (H:AH): AV→Option (Bool×List UInt8)
 | .nilSlice=>some (true,[])
 | .str t=>some (true,t)
 | .own l n 1=>match H.get l with
  | .str b _=>some (decide (n=b.length),b)
  | .cells cs _=>some ((cs.take n).all AV.byte?,(cs.take n).map AV.byte)
  | _=>none
 | .slice l 0 k n _ 1=>match H.get l with
  | .str b _=>some (true,(b.drop k).take n)
  | .cells cs _=>some (((cs.drop k).take n).all AV.byte?,((cs.drop k).take n).map AV.byte)
  | _=>none
 | _=>none
def bothBytes (I:Info) (e:TypeId) (sz:Nat) (H:AH) (s x:AV): Bool×Option (List UInt8):=
 match sz,I.und e with
 | 1,some (.int .u8)=>match abytesD H s,abytesS H x with
  | some (o1,b1),some (o2,b2)=>(o1&&o2,some (sapp b1 b2))
  | _,_=>(true,none)
 | _,_=>(true,none)
theorem byteCells_of {cs:List AV} (h:cs.all AV.byte? =true): byteCells (cs.map AV.byte)=cs:=by
 induction cs with
 | nil=>rfl
 | cons a cs ih=>
  simp only [List.all_cons,Bool.and_eq_true] at h
  have hr:=ih h.2
  simp only [byteCells,List.map_cons,List.map_map] at hr⊢
  refine congr (congrArg _ ?_) hr
  cases a with
  | int k n=>
   cases k<;>simp only [AV.byte?,Bool.false_eq_true,Bool.and_eq_true,decide_eq_true_eq,false_and] at h
   simp only [AV.byte,AV.intOf]
   congr 1
   have:n.toNat<256:=by omega
   simp [UInt8.toNat_ofNat',Nat.mod_eq_of_lt this]
   omega
  | _=>simp [AV.byte?] at h
theorem abytesS_ok {H:AH} {x:AV} {n:Nat} {f:Nat→List AV} {c:Bool} {b:List UInt8} (h:aview H 1 x=some (true,n,f,c)) (k:abytesS H x=some (true,b)): rowsOf n f=byteCells b:=by
 have cut : ∀ (cs:List AV) (o m:Nat),o+m≤cs.length→rowsOf m (fun i=>(cs.drop (o+i*1)).take 1)=(cs.drop o).take m:=fun cs o m hm=>by
  have:=rowsOf_cut (cs:=cs) (o:=o) (e:=1) (n:=m) (by omega) (by omega)
  rw [Nat.mul_one] at this
  exact this
 unfold abytesS at k
 split at k
 ·cases k
  simp only [aview] at h
  rw [if_pos (by omega)] at h
  cases h;rfl
 ·cases k
  simp only [aview,if_true] at h
  simp only [Option.some.injEq,Prod.mk.injEq,true_and] at h
  obtain ⟨rfl,rfl,rfl⟩:=h
  exact rowsOf_bytes _
 ·rename_i l m
  split at k
  ·rename_i b' a hb
   simp only [Option.some.injEq,Prod.mk.injEq,decide_eq_true_eq] at k
   obtain ⟨rfl,rfl⟩:=k
   simp only [aview,hb,ABlk.un] at h
   simp only [true_and,Nat.lt_add_one,if_true,Option.some.injEq,Prod.mk.injEq,decide_eq_true_eq] at h
   obtain ⟨_,rfl,rfl,rfl⟩:=h
   exact rowsOf_bytes _
  ·rename_i cs a hb
   simp only [Option.some.injEq,Prod.mk.injEq] at k
   obtain ⟨k1,rfl⟩:=k
   simp only [aview,hb,ABlk.un] at h
   simp only [true_and,Nat.lt_add_one,if_true,Option.some.injEq,Prod.mk.injEq,decide_eq_true_eq] at h
   obtain ⟨hl,rfl,rfl,rfl⟩:=h
   have:=cut cs 0 m (by omega)
   simp only [Nat.zero_add,List.drop_zero] at this
   rw [this,byteCells_of k1]
  ·cases k
 ·rename_i l kk m cap
  split at k
  ·rename_i b' a hb
   simp only [Option.some.injEq,Prod.mk.injEq,true_and] at k
   subst k
   simp only [aview,hb,ABlk.un] at h
   simp only [and_self,Nat.lt_add_one,if_true,Option.some.injEq,Prod.mk.injEq,decide_eq_true_eq] at h
   obtain ⟨hl,rfl,rfl,rfl⟩:=h
   have : ∀ n,kk+n≤b'.length→rowsOf n (fun i=>byteRow b' (kk+i))=byteCells ((b'.drop kk).take n):=by
    intro n
    induction n with
    | zero=>intro _;simp [rowsOf,byteCells]
    | succ n ih=>
     intro hn
     rw [rowsOf_succ,ih (by omega),List.take_add_one,List.getElem?_drop,List.getElem?_eq_getElem (by omega)]
     show _=List.map _ (_++_)
     rw [List.map_append]
     refine congr rfl ?_
     simp [byteRow,List.getD_eq_getElem?_getD,List.getElem?_eq_getElem (show kk+n<b'.length by omega)]
   exact this _ hl
  ·rename_i cs a hb
   simp only [Option.some.injEq,Prod.mk.injEq] at k
   obtain ⟨k1,rfl⟩:=k
   simp only [aview,hb,ABlk.un] at h
   simp only [true_and,Nat.lt_add_one,if_true,Option.some.injEq,Prod.mk.injEq,decide_eq_true_eq] at h
   obtain ⟨hl,rfl,rfl,rfl⟩:=h
   have:=cut cs kk m (by omega)
   simp only [Nat.zero_add,Nat.mul_one] at this⊢
   rw [this,byteCells_of k1]
  ·cases k
 ·cases k
theorem abytesD_ok {H:AH} {x:AV} {n:Nat} {f:Nat→List AV} {c:Bool} {b:List UInt8} (h:aview H 1 x=some (true,n,f,c)) (k:abytesD H x=some (true,b)): rowsOf n f=byteCells b:=by
 unfold abytesD at k
 split at k
 ·exact abytesS_ok h k
 ·split at k
  ·rename_i hb
   exact abytesS_ok h (by simp only [abytesS,hb];exact k)
  ·cases k
 ·split at k
  ·rename_i m cap _ b' a hb
   refine abytesS_ok h ?_
   simp only [Option.some.injEq,Prod.mk.injEq,decide_eq_true_eq] at k
   obtain ⟨rfl,rfl⟩:=k
   simp only [abytesS,hb,List.drop_zero,List.take_length]
  ·cases k
 ·cases k
theorem byteCells_append (a b:List UInt8): byteCells (a++b)=byteCells a++byteCells b:=by simp [byteCells]
theorem bothBytes_ok {I:Info} {e:TypeId} {sz:Nat} {H:AH} {s x:AV} {n1 n2:Nat} {f1 f2:Nat→List AV} {c1 c2:Bool} (h1:aview H sz s=some (true,n1,f1,c1)) (h2:aview H sz x=some (true,n2,f2,c2)) (h:(bothBytes I e sz H s x).1=true):
  ∀ bs,(bothBytes I e sz H s x).2=some bs→rowsOf n1 f1++rowsOf n2 f2=byteCells bs:=by
 intro bs hb
 unfold bothBytes at h hb
 split at h
 ·rename_i hu
  simp only [hu] at hb
  split at h
  ·rename_i o1 b1 o2 b2 k1 k2
   simp only [k1,k2,Option.some.injEq] at hb
   simp only [Bool.and_eq_true] at h
   obtain ⟨rfl,rfl⟩:=h
   rw [←hb]
   show _=byteCells (b1++b2)
   rw [byteCells_append,abytesD_ok h1 k1,abytesS_ok h2 k2]
  ·rename_i hne
   split at hb
   ·rename_i k1 k2;exact absurd k2 (hne _ _ _ _ k1)
   ·cases hb
 ·rename_i hne
  split at hb
  ·rename_i hu;exact absurd hu (hne rfl)
  ·cases hb
def aappend (X:RI R) (I:Info) (st xt:TypeId) (s x:AV) (H:AH) (K:AV→AH→R): R :=
 match I.und st,I.und xt with
 | some (.slice e),some xd=>
  match I.size e,I.bytes e,(I.zero e).bind AV.cells?,(srcOk xd) with
  | some sz,some by_,some zs,true=>
   if zs.length=sz then
   match aview H sz s,aview H sz x with
   | some (ok1,n1,f1,c1),some (ok2,n2,f2,c2)=>
    X.assert (ok1&&ok2&&decide (0<by_)&&decide ((n1+n2)*by_≤140737488355328)&&(bothBytes I e sz H s x).1)
     (match s with
      | .nilSlice=>K (.own H.n n2 sz) (H.new (joined (bothBytes I e sz H s x).2 n1 n2 sz f1 f2 (c1&&c2) (.ty e)))
      | .slice l b k len (some cp) es=>X.cond (decide (n2=0)) (fun _=>K (.slice l b k len (some cp) es) H)
        (fun _=>X.cond (decide (cp=len)) (fun _=>K (.own H.n (n1+n2) sz) (H.new (joined (bothBytes I e sz H s x).2 n1 n2 sz f1 f2 (c1&&c2) (.ty e)))) (fun _=>inplace X e (.slice l b k len (some cp) es) (n1+n2) sz (joined (bothBytes I e sz H s x).2 n1 n2 sz f1 f2 (c1&&c2)) H K))
      | .slice l b k len none es=>X.cond (decide (n2=0)) (fun _=>K (.slice l b k len none es) H)
        (fun _=>inplace X e (.slice l b k len none es) (n1+n2) sz (joined (bothBytes I e sz H s x).2 n1 n2 sz f1 f2 (c1&&c2)) H K)
      | s=>inplace X e s (n1+n2) sz (joined (bothBytes I e sz H s x).2 n1 n2 sz f1 f2 (c1&&c2)) H K)
   | _,_=>X.fail
   else X.fail
  | _,_,_,_=>X.fail
 | _,_=>X.fail
include hI in
theorem run_append2 {st xt e:TypeId} {xd:TypeDesc} {sz by_:Nat} {zs:List AV} (h1:I.und st=some (.slice e)) (h2:I.und xt=some xd) (h3:I.size e=some sz) (h4:I.bytes e=some by_) (h5:(I.zero e).bind AV.cells? =some zs) (hzs:zs.length=sz)
  (h6:(srcOk xd)=true) (h7:0<by_) {n1 n2:Nat} (h8:(n1+n2)*by_≤140737488355328) {base:Option Addr} {cap:Nat} {xv:Value} {us vs:List Value} (w:World)
  (e1:(Builtin.lenOf xv).run P w= .ok n2 w) (e2 : ∀ d,(Builtin.firstCells sz n1 (.slice base n1 cap)).run P {w with drawn:=d}= .ok us.toArray {w with drawn:=d}) (e3 : ∀ d,(Builtin.firstCells sz n2 xv).run P {w with drawn:=d}= .ok vs.toArray {w with drawn:=d}) (ty:TypeId):
  (cap<n1+n2→ ∃ (nc:Nat) (rest:List Value),n1+n2≤nc∧rest.length=(nc-(n1+n2))*sz∧(Builtin.append_ #[st,xt] ty #[.slice base n1 cap,xv]).run P w= .ok (.slice (some ⟨w.heap.size,0,none⟩) (n1+n2) nc) {w with drawn:=w.drawn+1,heap:=w.heap.push (.cells (us++vs++rest).toArray e)})∧
  (n1+n2≤cap→(Builtin.append_ #[st,xt] ty #[.slice base n1 cap,xv]).run P w=
   ((match base with | some a=>storeCells (a.add (n1*sz)) vs | none=>pure (): Sem Unit).run P w).andThen fun _ w'=> .ok (.slice base (n1+n2) cap) w'):=by
 simp only [Option.bind_eq_some_iff] at h5
 obtain ⟨z,hz1,hz2⟩:=h5
 obtain ⟨i,zv,g1,g2,g3⟩:=hI.zero e z hz1
 obtain ⟨i',g4,g5⟩:=hI.size e sz h3
 obtain ⟨i'',g6,g7⟩:=hI.bytes e by_ h4
 rw [g1] at g4 g6
 cases g4
 cases g6
 have hcells:=VR.cells (ofVal_ok ⟨fun _=>none,fun _=>none⟩ zv z g3) hz2
 have hzl:zv.cells.size=sz:=by rw [←Array.length_toList,←hcells.length_eq,hzs]
 have e3w:(Builtin.firstCells sz n2 xv).run P w= .ok vs.toArray w:=e3 w.drawn
 have hu:P.underlying xt=some xd:=hI.und xt _ h2
 have hxd:(∃ e',xd= .slice e')∨xd= .string:=by cases xd<;>first | exact .inl ⟨_,rfl⟩ | exact .inr rfl | (simp [srcOk] at h6)
 constructor
 ·intro hlt
  have hfit : ¬ (281474976710656<Builtin.nextslicecap (n1+n2) cap*i.bytes):=by
   have:=growslice_fits (need:=n1+n2) (old:=cap) (bytes:=i.bytes) hlt (by rw [g7];exact h8)
   omega
  refine ⟨grownCap w (n1+n2) cap e,(Builtin.zeroCells zv.cells (grownCap w (n1+n2) cap e-(n1+n2))).toList,grownCap_ge _ _ _ _,by simp [Builtin.zeroCells,hzl],?_⟩
  have hle : ¬ (n1+n2≤cap):=by omega
  have hb0 : ¬ i.bytes=0:=by omega
  have hj : ∀ Z:Array Value,us.toArray++(vs.toArray++Z)=(us++(vs++Z.toList)).toArray:=fun Z=>by apply Array.ext';simp
  have e2d:(Builtin.firstCells sz n1 (.slice base n1 cap)).run P w.drew= .ok us.toArray w.drew:=e2 (w.drawn+1)
  have e3d:(Builtin.firstCells sz n2 xv).run P w.drew= .ok vs.toArray w.drew:=e3 (w.drawn+1)
  clear e2 e3 e3w
  rcases hxd with ⟨e',rfl⟩ | rfl
  ·simp [Builtin.append_,run_underlying (hI.und st _ h1),run_underlying hu,sizeOf,typeInfo,zeroValue,g1,g2,g5,e1,hle,hb0,hfit,Question.forced,e2d,e3d,newRow,grownCap]
   rw [hj]
   rfl
  ·simp [Builtin.append_,run_underlying (hI.und st _ h1),run_underlying hu,sizeOf,typeInfo,zeroValue,g1,g2,g5,e1,hle,hb0,hfit,Question.forced,e2d,e3d,newRow,grownCap]
   rw [hj]
   rfl
 ·intro hle
  rcases hxd with ⟨e',rfl⟩ | rfl
  ·cases base<;>simp [Builtin.append_,run_underlying (hI.und st _ h1),run_underlying hu,sizeOf,typeInfo,g1,g5,e1,hle,e3w]
  ·cases base<;>simp [Builtin.append_,run_underlying (hI.und st _ h1),run_underlying hu,sizeOf,typeInfo,g1,g5,e1,hle,e3w]
theorem CellsRel.pre {ρ:Env} {w:World} {r N:Nat} {a b:List AV} {rw:Access} (h:CellsRel ρ w (some (r,N)) (a++b) rw): CellsRel ρ w (some (r,N)) a rw:=by
 rcases h with ⟨_,h0⟩ | ⟨b',N',vs,rest,el,fr,e1,e2,e3,e4,e5,e6,e7⟩
 ·cases h0
 ·have hl:=e4.length_eq
  simp only [List.length_append] at hl
  refine .inr ⟨b',N',vs.take a.length,vs.drop a.length++rest,el,fr,e1,?_,?_,?_,e5,fun v hv=>e6 v (List.mem_of_mem_take hv),fun e=>by rw [←List.append_assoc,List.take_append_drop];exact e7 e⟩
  ·rw [←List.append_assoc,List.take_append_drop];exact e2
  ·rw [←List.append_assoc,List.take_append_drop];exact e3
  ·have:=e4.take a.length
   rwa [List.take_left] at this
theorem aview_own {H:AH} {e l:Nat} {x:AV} {len:Nat} {f:Nat→List AV} {cl:Bool} (h:aview H e x=some (true,len,f,cl)) (ho:ownLabel x=some l) {ρ:Env} {w:World} {r N:Nat} (hb:BlkRel ρ w (some (r,N)) (H.get l)):
  CellsRel ρ w (some (r,N)) (rowsOf len f) (H.get l).acc:=by
 rw [←ABlk.un_acc]
 replace hb:=hb.un
 have key : ∀ (cs:List AV) (rw:Access),0<e→len*e≤cs.length→CellsRel ρ w (some (r,N)) cs rw→CellsRel ρ w (some (r,N)) (rowsOf len fun i=>(cs.drop (i*e)).take e) rw:=by
  intro cs rw he hl hc
  have:=rowsOf_cut (cs:=cs) (o:=0) he (n:=len) (by omega)
  simp only [Nat.zero_add] at this
  rw [this,List.drop_zero]
  rw [←List.take_append_drop (len*e) cs] at hc
  exact hc.pre
 have keyr : ∀ (m:Nat) (g:Nat→List AV) (rw:Access),len≤m→CellsRel ρ w (some (r,N)) (rowsOf m g) rw→CellsRel ρ w (some (r,N)) (rowsOf len g) rw:=by
  intro m g rw hl hc
  obtain ⟨a,t,e2,e3⟩:=rowsOf_shift (m:=m) (f:=g) (n:=len) (k:=0) (by omega)
  have hla:a=[]:=by rw [e3];rfl
  subst hla
  simp only [List.nil_append,Nat.zero_add] at e2
  rw [e2] at hc
  exact hc.pre
 unfold ownLabel at ho
 split at ho
 ·rename_i l' len' e'
  cases ho
  simp only [aview] at h
  split at h
  ·rename_i he
   split at h
   ·rename_i cs rw hcs
    rw [hcs] at hb⊢
    simp only [Option.some.injEq,Prod.mk.injEq,decide_eq_true_eq] at h
    obtain ⟨hle,rfl,rfl,rfl⟩:=h
    exact key cs rw he.2 hle hb
   ·rename_i m e1 g rw hcs
    rw [hcs] at hb⊢
    split at h
    ·simp only [Option.some.injEq,Prod.mk.injEq,decide_eq_true_eq] at h
     obtain ⟨hle,rfl,rfl,rfl⟩:=h
     exact keyr m g rw hle hb.2
    ·cases h
   ·cases h
  ·cases h
 ·rename_i l' len' cp e'
  cases ho
  simp only [aview] at h
  split at h
  ·rename_i he
   split at h
   ·rename_i cs rw hcs
    rw [hcs] at hb⊢
    simp only [Option.some.injEq,Prod.mk.injEq,decide_eq_true_eq,Nat.zero_mul,Nat.zero_add] at h
    obtain ⟨hle,rfl,rfl,rfl⟩:=h
    exact key cs rw he.2 hle hb
   ·rename_i m e1 g rw hcs
    rw [hcs] at hb⊢
    split at h
    ·simp only [Option.some.injEq,Prod.mk.injEq,decide_eq_true_eq,Nat.zero_add] at h
     obtain ⟨hle,rfl,rfl,rfl⟩:=h
     exact keyr m g rw hle hb.2
    ·cases h
   ·cases h
  ·cases h
 ·cases ho
theorem Rel.newNone {c:Ctx} {ρ:Env} {H:AH} {w:World} (h:Rel c ρ H w) (b:ABlk) (hb:BlkRel ρ w none b): Rel c ρ (H.new b) w:=by
 have hn:ρ H.n= .none:=h.top _ (Nat.le_refl _)
 refine ⟨fun l=>?_,fun l l' r M M' hne hrw h1 h2=>?_,fun l r M hrw h1=>?_,h.keep,h.size,h.os,h.output,h.tape,fun l hl=>h.top l (by simp at hl;omega),h.glob,fun l r M hd h1=>?_,fun l hl=>?_,fun l hl=>by rw [AH.get_new_ne _ _ (by simp at hl;omega)];exact h.low l (by simp at hl;omega),h.fro,fun l r M hrw h1=>?_,h.frx,h.frk⟩
 ·by_cases hl:l=H.n
  ·subst hl;rw [AH.get_new_same,hn];exact hb
  ·rw [AH.get_new_ne _ _ hl];exact h.blk l
 ·have hl:l≠H.n:=fun e=>by rw [e,hn] at h1;cases h1
  have hl':l'≠H.n:=fun e=>by rw [e,hn] at h2;cases h2
  rw [AH.get_new_ne _ _ hl] at hrw
  rw [AH.get_new_ne _ _ hl']
  exact h.sep l l' r M M' hne hrw h1 h2
 ·have hl:l≠H.n:=fun e=>by rw [e,hn] at h1;cases h1
  rw [AH.get_new_ne _ _ hl] at hrw
  exact h.prot l r M hrw h1
 ·have hl:l≠H.n:=fun e=>by rw [e,hn] at h1;cases h1
  rw [AH.get_new_ne _ _ hl] at hd
  exact h.hid l r M hd h1
 ·obtain ⟨h1,h2⟩:=h.env l hl
  exact ⟨by simp;omega,h2⟩
 ·have hl:l≠H.n:=fun e=>by rw [e,hn] at h1;cases h1
  rw [AH.get_new_ne _ _ hl] at hrw
  exact h.frw l r M hrw h1
theorem Rel.putNone {c:Ctx} {ρ:Env} {H:AH} {w:World} (h:Rel c ρ H w) {l:Nat} (b:ABlk) (hl:ρ l=Option.none) (hb:BlkRel ρ w Option.none b) (hln:l<H.n): Rel c ρ (H.set l b) w:=by
 have hget : ∀ i,i≠l→(H.set l b).get i=H.get i:=fun i e=>AH.get_set_ne _ _ (fun e'=>e e'.symm)
 refine ⟨fun i=>?_,fun i i' r M M' hne hrw h1 h2=>?_,fun i r M hrw h1=>?_,h.keep,h.size,h.os,h.output,h.tape,fun i hi=>h.top i (by simpa using hi),h.glob,fun i r M hd h1=>?_,fun i hi=>by simpa using h.env i hi,fun i hi=>by rw [hget i (by simp at hi;omega)];exact h.low i (by simpa using hi),h.fro,fun i r M hrw h1=>?_,h.frx,h.frk⟩
 ·by_cases e:i=l
  ·subst e
   rw [AH.get_set_same,hl];exact hb
  ·rw [hget i e];exact h.blk i
 ·have e1:i≠l:=fun e=>by rw [e,hl] at h1;cases h1
  have e2:i'≠l:=fun e=>by rw [e,hl] at h2;cases h2
  rw [hget i e1] at hrw
  rw [hget i' e2]
  exact h.sep i i' r M M' hne hrw h1 h2
 ·have e1:i≠l:=fun e=>by rw [e,hl] at h1;cases h1
  rw [hget i e1] at hrw
  exact h.prot i r M hrw h1
 ·have e1:i≠l:=fun e=>by rw [e,hl] at h1;cases h1
  rw [hget i e1] at hd
  exact h.hid i r M hd h1
 ·have e1:i≠l:=fun e=>by rw [e,hl] at h1;cases h1
  rw [hget i e1] at hrw
  exact h.frw i r M hrw h1
theorem inplace_ok (hX:X.Ok sem) {e:TypeId} {s:AV} {n sz:Nat} {blk:Access→ABlk} {H:AH} {K:AV→AH→R} (h:sem (inplace X e s n sz blk H K)):
  ∃ l,ownLabel s=some l∧(H.get l).rw=true∧sem (K (.own H.n n sz) ((H.set l .dead).new (blk ((H.get l).acc.meet e)))):=by
 unfold inplace at h
 split at h
 ·rename_i l hl
  split at h
  ·rename_i hrw
   exact ⟨l,hl,hrw,h⟩
  ·exact absurd h hX.fail
 ·exact absurd h hX.fail
include hX hI in
theorem aappend_ok {st xt:TypeId} {s x:AV} {H:AH} {K:AV→AH→R} (h:sem (aappend X I st xt s x H K)):
  ∃ a H',sem (K a H')∧ ∀ c ρ w sv xv ty,VR ρ s sv→VR ρ x xv→Rel c ρ H w→ ∃ v' w' ρ',(Builtin.append_ #[st,xt] ty #[sv,xv]).run P w= .ok v' w'∧Ext ρ ρ'∧Rel c ρ' H' w'∧VR ρ' a v':=by
 unfold aappend at h
 split at h
 ·rename_i e xd hst hxt
  split at h
  ·rename_i sz by_ zs hsz hby hz hxd
   split at h
   ·rename_i hzs
    split at h
    ·rename_i ok1 n1 f1 c1 ok2 n2 f2 c2 hv1 hv2
     obtain ⟨hok,hK⟩:=hX.assert _ _ h
     simp only [Bool.and_eq_true,decide_eq_true_eq] at hok
     obtain ⟨⟨⟨⟨rfl,rfl⟩,hby0⟩,hfit⟩,hbb⟩:=hok
     have hbo:=bothBytes_ok hv1 hv2 hbb
     have grow : ∀ (A:Access),(∀ e',A= .ty e'→e=e')→A≠ .ro→ ∀ c ρ w (base:Option Addr) (cap:Nat) xv ty,VR ρ s (.slice base n1 cap)→VR ρ x xv→Rel c ρ H w→cap<n1+n2→
       ∃ v' w' ρ',(Builtin.append_ #[st,xt] ty #[.slice base n1 cap,xv]).run P w= .ok v' w'∧Ext ρ ρ'∧Rel c ρ' (H.new (joined (bothBytes I e sz H s x).2 n1 n2 sz f1 f2 (c1&&c2) A)) w'∧VR ρ' (.own H.n (n1+n2) sz) v':=by
      intro A hA hA2 c ρ w base cap xv ty hs hx hr hlt
      obtain ⟨l1,_,r1⟩:=aview_ok (P:=P) hv1 hs hr
      obtain ⟨l2,g2,r2⟩:=aview_ok (P:=P) hv2 hx hr
      obtain ⟨us,u1,u2,u1s,u3⟩:=r1 n1 (Nat.le_refl _)
      obtain ⟨vs,v1,v2,v1s,v3⟩:=r2 n2 (Nat.le_refl _)
      obtain ⟨nc,rest,a1,a2,a3⟩:=(run_append2 hI hst hxt hsz hby hz hzs hxd hby0 hfit w g2 u3 v3 ty).1 hlt
      have hr1:=hr.drawn (w.drawn+1)
      have hx1:=Env.ext_put (w.heap.size,nc*sz) (hr.top _ (Nat.le_refl H.n))
      have hN:(us++vs++rest).length=nc*sz:=by
       simp only [List.length_append,u2,v2,a2]
       rw [←Nat.add_mul,←Nat.add_mul]
       congr 1;omega
      obtain ⟨hx2,hr2⟩:=hr1.new (.cells (us++vs++rest).toArray e) (nc*sz) (joined (bothBytes I e sz H s x).2 n1 n2 sz f1 f2 (c1&&c2) A) fun w' hw'=>
       joined_ok l1 l2 (.inr ⟨_,_,us++vs,rest,e,(0,0),rfl,hw',hN,(VRs.ext hx1 _ _ u1).append (VRs.ext hx1 _ _ v1),AccOk.fresh hA,fun v hv=>(List.mem_append.1 hv).elim (u1s v) (v1s v),fun e=>absurd e hA2⟩) hbo
      exact ⟨_,_,_,a3,hx2,hr2,by simp only [VR];exact .inr ⟨_,_,nc,Env.put_same _ _ _,rfl,a1,Nat.le_refl _⟩⟩
     have both : ∀ l,ownLabel s=some l→(H.get l).rw=true→ ∀ c ρ w (r N cap:Nat) xv ty,ρ l=some (r,N)→cap*sz≤N→VR ρ s (.slice (some ⟨r,0,none⟩) n1 cap)→VR ρ x xv→Rel c ρ H w→
       ∃ v' w' ρ',(Builtin.append_ #[st,xt] ty #[.slice (some ⟨r,0,none⟩) n1 cap,xv]).run P w= .ok v' w'∧Ext ρ ρ'∧Rel c ρ' ((H.set l .dead).new (joined (bothBytes I e sz H s x).2 n1 n2 sz f1 f2 (c1&&c2) ((H.get l).acc.meet e))) w'∧VR ρ' (.own H.n (n1+n2) sz) v':=by
      intro l hl hrw c ρ w r N cap xv ty hlr hcap hs hx hr
      have hw:(H.get l).acc.w=true:=by rw [ABlk.acc_w];exact hrw
      by_cases hlt:cap<n1+n2
      ·obtain ⟨v',w',ρ',b1,b2,b3,b4⟩:=grow _ (fun _ h=>(Access.meet_ty h).1) Access.meet_ro c ρ w _ cap xv ty hs hx hr hlt
       exact ⟨v',w',ρ',b1,b2,killNew (hr.belowRw hrw) b3,b4⟩
      ·obtain ⟨l1,_,r1⟩:=aview_ok (P:=P) hv1 hs hr
       obtain ⟨l2,g2,r2⟩:=aview_ok (P:=P) hv2 hx hr
       obtain ⟨us,u1,u2,u1s,u3⟩:=r1 n1 (Nat.le_refl _)
       obtain ⟨vs,v1,v2,v1s,v3⟩:=r2 n2 (Nat.le_refl _)
       have a3:=(run_append2 hI hst hxt hsz hby hz hzs hxd hby0 hfit w g2 u3 v3 ty).2 (by omega)
       have hb:=hr.blk l
       rw [hlr] at hb
       have hown:=aview_own hv1 hl hb
       have hus:=rowsOf_length l1
       rcases hown with ⟨_,h0⟩ | ⟨b',N',ws,rest,el,fr,e1,e2,e3,e4,e5,e6,e7⟩
       ·cases h0
       ·cases e1
        have hwl:=e4.length_eq
        have hle:(n1+n2)*sz≤N:=Nat.le_trans (Nat.mul_le_mul_right sz (by omega)) hcap
        rw [Nat.add_mul] at hle
        obtain ⟨w',f1',f2',f3'⟩:=run_storeCells_us (P:=P) (o:=n1*sz) vs 0 w (ws++rest) el fr e2 (by omega) (by rw [e3];exact e5.w hw) v1s
        have hx1:Ext ρ (ρ.put H.n (r,N)):=Env.ext_put _ (hr.top _ (Nat.le_refl _))
        have hjoin:CellsRel (ρ.put H.n (r,N)) w' (some (r,N)) (rowsOf n1 f1++rowsOf n2 f2) ((H.get l).acc.meet e):=by
         refine .inr ⟨r,N,ws++vs,rest.drop (n2*sz),el,fr,rfl,?_,?_,(VRs.ext hx1 _ _ e4).append (VRs.ext hx1 _ _ v1),e5.meet hw,fun v hv=>(List.mem_append.1 hv).elim (e6 v) (v1s v),fun e=>absurd e Access.meet_ro⟩
         ·rw [f2']
          congr 2
          simp only [Nat.add_zero]
          have hq:n1*sz+vs.length-ws.length=n2*sz:=by omega
          rw [List.take_append_of_le_length (by omega),List.take_of_length_le (by omega),List.drop_append,List.drop_of_length_le (show ws.length≤n1*sz+vs.length by omega),List.nil_append,hq]
         ·simp only [List.length_append,List.length_drop] at e3⊢
          omega
        obtain ⟨hx2,hr2⟩:=hr.moved (joined (bothBytes I e sz H s x).2 n1 n2 sz f1 f2 (c1&&c2) ((H.get l).acc.meet e)) hrw hlr f3' (joined_ok l1 l2 hjoin hbo)
        refine ⟨_,w',_,?_,hx2,hr2,by simp only [VR];exact .inr ⟨r,N,cap,Env.put_same _ _ _,rfl,by omega,hcap⟩⟩
        rw [a3]
        simp only [addr_add,Nat.zero_add,f1',Result.andThen_ok]
     have lenEq : ∀ c ρ w v,VR ρ s v→Rel c ρ H w→(Builtin.lenOf v).run P w= .ok n1 w:=fun c ρ w v hv hr=>(aview_ok (P:=P) hv1 hv hr).2.1
     have same:n2=0→ ∀ c ρ w (base:Option Addr) (cap:Nat) xv ty,n1≤cap→VR ρ s (.slice base n1 cap)→VR ρ x xv→Rel c ρ H w→(Builtin.append_ #[st,xt] ty #[.slice base n1 cap,xv]).run P w= .ok (.slice base n1 cap) w:=by
      intro h0 c ρ w base cap xv ty hle hs hx hr
      subst h0
      obtain ⟨l1,_,r1⟩:=aview_ok (P:=P) hv1 hs hr
      obtain ⟨l2,g2,r2⟩:=aview_ok (P:=P) hv2 hx hr
      obtain ⟨us,u1,u2,u1s,u3⟩:=r1 n1 (Nat.le_refl _)
      obtain ⟨vs,v1,v2,v1s,v3⟩:=r2 0 (Nat.le_refl _)
      have:vs=[]:=by
       cases vs with
       | nil=>rfl
       | cons v vs=>simp at v2
      subst this
      have a3:=(run_append2 hI hst hxt hsz hby hz hzs hxd hby0 hfit w g2 u3 v3 ty).2 (by omega)
      rw [a3]
      cases base<;>simp [storeCells]
     have sliceLen : ∀ {l b k len:Nat} {cap:Option Nat} {e:Nat},s= .slice l b k len cap e→len=n1:=by
      intro l b k len cap e hs
      rw [hs] at hv1
      simp only [aview] at hv1
      split at hv1
      ·split at hv1
       ·simp only [Option.some.injEq,Prod.mk.injEq] at hv1;exact hv1.2.1
       ·split at hv1
        ·simp only [Option.some.injEq,Prod.mk.injEq] at hv1;exact hv1.2.1
        ·cases hv1
       ·cases hv1
      ·cases hv1
     have sliceE : ∀ {l b k len:Nat} {cap:Option Nat} {e:Nat},s= .slice l b k len cap e→e=sz:=by
      intro l b k len cap e hs
      rw [hs] at hv1
      simp only [aview] at hv1
      split at hv1
      ·rename_i he;exact he.1.symm
      ·cases hv1
     have inSlice : ∀ {l b k len:Nat} {cap:Option Nat} {es:Nat},s= .slice l b k len cap es→0<n2→sem (inplace X e s (n1+n2) sz (joined (bothBytes I e sz H s x).2 n1 n2 sz f1 f2 (c1&&c2)) H K)→
       ∃ a H',sem (K a H')∧ ∀ c ρ w sv xv ty,VR ρ s sv→VR ρ x xv→Rel c ρ H w→ ∃ v' w' ρ',(Builtin.append_ #[st,xt] ty #[sv,xv]).run P w= .ok v' w'∧Ext ρ ρ'∧Rel c ρ' H' w'∧VR ρ' a v':=by
      intro l b k len cap es hs hpos hin
      obtain ⟨l',hl',hrw,hk⟩:=inplace_ok hX hin
      refine ⟨_,_,hk,fun c ρ w sv xv ty hsv hx hr=>?_⟩
      have hlen:=sliceLen hs
      have he:=sliceE hs
      have hsv':=hsv
      rw [hs] at hsv' hl'
      unfold ownLabel at hl'
      split at hl'
      ·rename_i hq;cases hq
      ·rename_i l2 len2 cp2 e2 hq
       cases hq
       cases hl'
       simp only [VR] at hsv'
       obtain ⟨b,N,cc,a,hb,rfl,hle,hcc,_⟩:=hsv'
       subst hlen he
       by_cases hc0:0<cc
       ·obtain ⟨rfl,hN⟩:=hcc hc0
        simp only [Nat.zero_mul,Nat.zero_add,Nat.add_zero] at hN hsv⊢
        exact both _ (by rw [hs];rfl) hrw c ρ w b N cc xv ty hb hN hsv hx hr
       ·obtain ⟨v',w',ρ',b1,b2,b3,b4⟩:=grow _ (fun _ h=>(Access.meet_ty h).1) Access.meet_ro c ρ w _ cc xv ty hsv hx hr (by omega)
        exact ⟨v',w',ρ',b1,b2,killNew (hr.belowRw hrw) b3,b4⟩
      ·cases hl'
     split at hK
     ·
      refine ⟨_,_,hK,fun c ρ w sv xv ty hs hx hr=>?_⟩
      have hs':=hs
      simp only [VR] at hs'
      subst hs'
      have h0:n1=0:=by
       have:=lenEq c ρ w _ hs hr
       simp [Builtin.lenOf] at this;exact this.symm
      subst h0
      by_cases h2:n2=0
      ·subst h2
       refine ⟨_,w,ρ,same rfl c ρ w none 0 xv ty (Nat.le_refl _) hs hx hr,Ext.refl _,hr.newNone _ (joined_none hbo),by simp [VR]⟩
      ·have:=grow (.ty e) (fun _ h=>by cases h;rfl) (fun h=>by cases h) c ρ w none 0 xv ty hs hx hr (by omega)
       simpa using this
     ·rename_i l b k len cp es
      have hc1:=hX.cond _ _ _ hK
      by_cases h2:n2=0
      ·rw [decide_eq_true h2,if_pos rfl] at hc1
       refine ⟨_,_,hc1,fun c ρ w sv xv ty hs hx hr=>?_⟩
       have hs':=hs
       simp only [VR] at hs'
       obtain ⟨b',N,cc,a,hb,rfl,hle,hcc,_⟩:=hs'
       have:=sliceLen rfl
       subst this
       exact ⟨_,w,ρ,same h2 c ρ w _ cc xv ty hle hs hx hr,Ext.refl _,hr,hs⟩
      ·rw [decide_eq_false h2,if_neg (by simp)] at hc1
       have hc2:=hX.cond _ _ _ hc1
       by_cases hcp:cp=len
       ·rw [decide_eq_true hcp,if_pos rfl] at hc2
        refine ⟨_,_,hc2,fun c ρ w sv xv ty hs hx hr=>?_⟩
        have hs':=hs
        simp only [VR] at hs'
        obtain ⟨b',N,cc,a,hb,rfl,hle,hcc,hcap⟩:=hs'
        have:=sliceLen rfl
        subst this
        have:=hcap _ rfl
        exact grow (.ty e) (fun _ h=>by cases h;rfl) (fun h=>by cases h) c ρ w _ cc xv ty hs hx hr (by omega)
       ·rw [decide_eq_false hcp,if_neg (by simp)] at hc2
        exact inSlice rfl (by omega) hc2
     ·rename_i l b k len es
      have hc1:=hX.cond _ _ _ hK
      by_cases h2:n2=0
      ·rw [decide_eq_true h2,if_pos rfl] at hc1
       refine ⟨_,_,hc1,fun c ρ w sv xv ty hs hx hr=>?_⟩
       have hs':=hs
       simp only [VR] at hs'
       obtain ⟨b',N,cc,a,hb,rfl,hle,hcc,_⟩:=hs'
       have:=sliceLen rfl
       subst this
       exact ⟨_,w,ρ,same h2 c ρ w _ cc xv ty hle hs hx hr,Ext.refl _,hr,hs⟩
      ·rw [decide_eq_false h2,if_neg (by simp)] at hc1
       exact inSlice rfl (by omega) hc1
     ·rename_i hn1 hn2 hn3
      obtain ⟨l',hl',hrw,hk⟩:=inplace_ok hX hK
      refine ⟨_,_,hk,fun c ρ w sv xv ty hs hx hr=>?_⟩
      unfold ownLabel at hl'
      split at hl'
      ·rename_i l2 len2 e2
       cases hl'
       have he:e2=sz:=by
        simp only [aview] at hv1
        split at hv1
        ·rename_i he;exact he.1.symm
        ·cases hv1
       have hs':=hs
       simp only [VR] at hs'
       rcases hs' with ⟨rfl,rfl⟩ | ⟨b',N,cc,hb,rfl,hle,hcc⟩
       ·have h0:n1=0:=by
         have:=lenEq c ρ w _ hs hr
         simp [Builtin.lenOf] at this;exact this.symm
        subst h0
        by_cases h2:n2=0
        ·subst h2
         refine ⟨_,w,ρ,same rfl c ρ w none 0 xv ty (Nat.le_refl _) hs hx hr,Ext.refl _,(hr.kill _).newNone _ (joined_none hbo),by simp [VR]⟩
        ·obtain ⟨v',w',ρ',b1,b2,b3,b4⟩:=grow _ (fun _ h=>(Access.meet_ty h).1) Access.meet_ro c ρ w none 0 xv ty hs hx hr (by omega)
         exact ⟨v',w',ρ',b1,b2,killNew (hr.belowRw hrw) b3,b4⟩
       ·have h0:len2=n1:=by
         have:=lenEq c ρ w _ hs hr
         simp [Builtin.lenOf] at this;exact this
        subst h0 he
        exact both _ rfl hrw c ρ w b' N cc xv ty hb hcc hs hx hr
      ·rename_i l2 len2 cp2 e2
       cases cp2 with
       | none=>exact absurd rfl (hn3 _ _ _ _ _)
       | some cp=>exact absurd rfl (hn2 _ _ _ _ _ _)
      ·cases hl'
    ·exact absurd h hX.fail
   ·exact absurd h hX.fail
  ·exact absurd h hX.fail
 ·exact absurd h hX.fail
end
end Go.Sx
end
section
namespace Go.Sx
open Go
def ABlk.puts0 (b:ABlk) (base k e n:Nat) (f:Nat→List AV): Option (Bool×ABlk):=
 match b with
 | .cells cs a=>bif a.w then some (decide (base+k*e+n*e≤cs.length),.cells (cs.take (base+k*e)++rowsOf n f++cs.drop (base+k*e+n*e)) a) else none
 | .rows m e' g a=>bif a.w then (if e=e'∧base=0 then some (decide (k+n≤m),.rows m e' (fun i=>bif Nat.ble k i&&Nat.blt i (k+n) then f (i-k) else g i) a) else none) else none
 | _=>none
def ABlk.puts (b:ABlk) (base k e n:Nat) (f:Nat→List AV): Option (Bool×ABlk):=b.un.puts0 base k e n f
theorem rowsOf_puts {m e:Nat} {g:Nat→List AV} (h : ∀ i,i<m→(g i).length=e) {k n:Nat} {f:Nat→List AV} (hk:k+n≤m) (hl:(rowsOf n f).length=n*e:=by assumption):
  rowsOf m (fun i=>bif Nat.ble k i&&Nat.blt i (k+n) then f (i-k) else g i)=(rowsOf m g).take (k*e)++rowsOf n f++(rowsOf m g).drop (k*e+n*e):=by
 obtain ⟨d,rfl⟩: ∃ d,m=k+n+d:=⟨m-(k+n),by omega⟩
 have p1 : ∀ i,i<k→(bif Nat.ble k i&&Nat.blt i (k+n) then f (i-k) else g i)=g i:=fun i hi=>by
  have:Nat.ble k i=false:=by rw [Bool.eq_false_iff];intro e;rw [Nat.ble_eq] at e;omega
  rw [this];rfl
 have p2 : ∀ i,i<n→(bif Nat.ble k (k+i)&&Nat.blt (k+i) (k+n) then f (k+i-k) else g (k+i))=f i:=fun i hi=>by
  have h1:Nat.ble k (k+i)=true:=by rw [Nat.ble_eq];omega
  have h2:Nat.blt (k+i) (k+n)=true:=by rw [Nat.blt_eq];omega
  have h3:k+i-k=i:=by omega
  rw [h1,h2,h3];rfl
 have p3 : ∀ i,i<d→(bif Nat.ble k (k+n+i)&&Nat.blt (k+n+i) (k+n) then f (k+n+i-k) else g (k+n+i))=g (k+n+i):=fun i hi=>by
  have:Nat.blt (k+n+i) (k+n)=false:=by rw [Bool.eq_false_iff];intro e;rw [Nat.blt_eq] at e;omega
  rw [this,Bool.and_false];rfl
 rw [rowsOf_add,rowsOf_add,rowsOf_congr p1,rowsOf_congr p2,rowsOf_congr p3,rowsOf_add (k+n) d g,rowsOf_add k n g]
 have l1:(rowsOf k g).length=k*e:=rowsOf_length fun i hi=>h i (by omega)
 have l2:(rowsOf n fun i=>g (k+i)).length=n*e:=rowsOf_length fun i hi=>h _ (by omega)
 congr 1
 ·congr 1
  rw [List.append_assoc,List.take_append_of_le_length (by omega),List.take_of_length_le (by omega)]
 ·rw [List.append_assoc,List.drop_append,l1,List.drop_of_length_le (by omega),List.nil_append,List.drop_append,l2]
  have e1:k*e+n*e-k*e=n*e:=by omega
  rw [e1,List.drop_of_length_le (by omega),List.nil_append,Nat.sub_self,List.drop_zero]
theorem ABlk.puts_ok0 {ρ:Env} {P:Program} {w:World} {r N:Nat} {b b':ABlk} {base k e n:Nat} {f:Nat→List AV} {us:List Value} (h:BlkRel ρ w (some (r,N)) b) (hf : ∀ i,i<n→(f i).length=e)
  (hp:b.puts0 base k e n f=some (true,b')) (hx:VRs ρ (rowsOf n f) us) (h1 : ∀ u∈us,u.oneCell'=true):
  b.rw=true∧ ∃ w',(storeCells ⟨r,base+k*e,none⟩ us).run P w= .ok () w'∧OneTurn r w w'∧BlkRel ρ w' (some (r,N)) b':=by
 have hl:=rowsOf_length hf
 unfold ABlk.puts0 at hp
 split at hp
 ·rename_i cs a
  cases ha:a.w with
  | false=>rw [ha] at hp;cases hp
  | true=>
  rw [ha] at hp
  simp only [cond_true,Option.some.injEq,Prod.mk.injEq,decide_eq_true_eq] at hp
  obtain ⟨hle,rfl⟩:=hp
  obtain ⟨w',f1,f2,f3⟩:=CellsRel.store (P:=P) h ha (o:=base+k*e) hx h1 (by omega)
  rw [hl] at f3
  exact ⟨ha,w',f1,f2,f3⟩
 ·rename_i m e' g a
  cases ha:a.w with
  | false=>rw [ha] at hp;cases hp
  | true=>
  rw [ha,cond_true] at hp
  split at hp
  ·rename_i hc
   obtain ⟨rfl,rfl⟩:=hc
   simp only [Option.some.injEq,Prod.mk.injEq,decide_eq_true_eq] at hp
   obtain ⟨hk,rfl⟩:=hp
   have hgl:=rowsOf_length h.1
   have hle:k*e+n*e≤m*e:=by rw [←Nat.add_mul];exact Nat.mul_le_mul_right e hk
   obtain ⟨w',f1,f2,f3⟩:=CellsRel.store (P:=P) h.2 ha (o:=k*e) hx h1 (by omega)
   simp only [Nat.zero_add]
   refine ⟨ha,w',f1,f2,fun i hi=>?_,by rw [rowsOf_puts h.1 hk,←hl];exact f3⟩
   cases hc:Nat.ble k i&&Nat.blt i (k+n) with
   | true=>
    have hc':=hc
    simp only [Bool.and_eq_true,Nat.ble_eq,Nat.blt_eq] at hc'
    simp only [hc,cond_true]
    exact hf (i-k) (by omega)
   | false=>
    simp only [hc,cond_false]
    exact h.1 i hi
  ·cases hp
 ·cases hp
theorem ABlk.puts_ok {ρ:Env} {P:Program} {w:World} {r N:Nat} {b b':ABlk} {base k e n:Nat} {f:Nat→List AV} {us:List Value} (h:BlkRel ρ w (some (r,N)) b) (hf : ∀ i,i<n→(f i).length=e)
  (hp:b.puts base k e n f=some (true,b')) (hx:VRs ρ (rowsOf n f) us) (h1 : ∀ u∈us,u.oneCell'=true):
  b.rw=true∧ ∃ w',(storeCells ⟨r,base+k*e,none⟩ us).run P w= .ok () w'∧OneTurn r w w'∧BlkRel ρ w' (some (r,N)) b':=by
 rw [←ABlk.un_rw]
 exact ABlk.puts_ok0 h.un hf hp hx h1
section
variable {R:Type} {X:RI R} {sem:R→Prop} (hX:X.Ok sem) {I:Info} {P:Program} (hI:I.Ok P)
def copyDst:AV→Option (Nat×Nat×Nat×Nat×Nat)
 | .slice l base k len _ e=>some (l,base,k,len,e)
 | .own l len e=>some (l,0,0,len,e)
 | _=>none
def acopy (X:RI R) (I:Info) (dt:TypeId) (d x:AV) (H:AH) (K:AV→AH→R): R :=
 match I.und dt with
 | some (.slice e)=>
  match I.size e with
  | some sz=>
   match copyDst d,aview H sz x with
   | some (l,base,k,len,e'),some (ok,n,f,_)=>
    if e'=sz then
     match (H.get l).puts base k sz (Nat.min n len) f with
     | some (ok',b)=>X.assert (ok&&ok') (K (.int .i64 (Nat.min n len:Nat)) (H.set l b))
     | none=>X.fail
    else X.fail
   | _,_=>X.fail
  | none=>X.fail
 | _=>X.fail
include hX hI in
theorem acopy_ok {dt:TypeId} {d x:AV} {H:AH} {K:AV→AH→R} (h:sem (acopy X I dt d x H K)):
  ∃ a H',sem (K a H')∧ ∀ c ρ w dv xv (ts:Array TypeId) ty,ts[0]? =some dt→VR ρ d dv→VR ρ x xv→Rel c ρ H w→ ∃ v' w' ρ',(Builtin.copy_ ts ty #[dv,xv]).run P w= .ok v' w'∧Ext ρ ρ'∧Rel c ρ' H' w'∧VR ρ' a v':=by
 unfold acopy at h
 split at h
 ·rename_i e hdt
  split at h
  ·rename_i sz hsz
   split at h
   ·rename_i l base k len e' ok n f cl hd hv
    split at h
    ·rename_i he
     subst he
     split at h
     ·rename_i ok' b hb
      obtain ⟨hok,hK⟩:=hX.assert _ _ h
      simp only [Bool.and_eq_true] at hok
      obtain ⟨rfl,rfl⟩:=hok
      refine ⟨_,_,hK,fun c ρ w dv xv ts ty hts hdv hxv hr=>?_⟩
      obtain ⟨l1,g1,r1⟩:=aview_ok (P:=P) hv hxv hr
      obtain ⟨us,u1,u2,u1s,u3⟩:=r1 (Nat.min n len) (Nat.min_le_left _ _)
      have u3w:=u3 w.drawn
      have hgo : ∀ m:Nat,VR ρ (.int .i64 (m:Nat)) (goInt m):=fun m=>by simp only [VR];rfl
      have run : ∀ (a:Addr) (cap:Nat),dv= .slice (some a) len cap→(Builtin.copy_ ts ty #[dv,xv]).run P w=((storeCells a us).run P w).andThen fun _ w'=> .ok (goInt (Nat.min n len)) w':=by
       intro a cap hdv
       subst hdv
       have e1:(#[Value.slice (some a) len cap,xv])[0]? =some (.slice (some a) len cap):=rfl
       have e2:(#[Value.slice (some a) len cap,xv])[1]? =some xv:=rfl
       simp only [Builtin.copy_,hts,e1,e2,Sem.run_bind,hI.run_und w hdt,Result.andThen_ok,g1,hI.run_size w hsz,u3w,Sem.run_pure]
      have runNil:dv= .slice none 0 0→len=0→(Builtin.copy_ ts ty #[dv,xv]).run P w= .ok (goInt (Nat.min n len)) w:=by
       intro hdv hlen
       subst hdv hlen
       have e1:(#[Value.slice none 0 0,xv])[0]? =some (.slice none 0 0):=rfl
       have e2:(#[Value.slice none 0 0,xv])[1]? =some xv:=rfl
       simp only [Builtin.copy_,hts,e1,e2,Sem.run_bind,hI.run_und w hdt,Result.andThen_ok,g1,hI.run_size w hsz,u3w,Sem.run_pure]
      have zero:Nat.min n len=0→us=[]:=fun h0=>by
       rw [h0,Nat.zero_mul] at u2
       exact List.eq_nil_of_length_eq_zero u2
      have wr : ∀ r N,ρ l=some (r,N)→ ∃ w',(storeCells ⟨r,base+k*e',none⟩ us).run P w= .ok () w'∧Rel c ρ (H.set l b) w':=by
       intro r N hlr
       have hblk:=hr.blk l
       rw [hlr] at hblk
       obtain ⟨hrw,w',f1,f2,f3⟩:=ABlk.puts_ok (P:=P) hblk (fun i hi=>l1 i (Nat.lt_of_lt_of_le hi (Nat.min_le_left _ _))) hb u1 u1s
       exact ⟨w',f1,hr.turn b hrw hlr f2.other f2.size f2.os f2.output f2.tape f3⟩
      have none_:Nat.min n len=0→ρ l=none→Rel c ρ (H.set l b) w:=by
       intro h0 hln
       have hblk:=hr.blk l
       rw [hln] at hblk
       rw [h0] at hb
       have hbb:BlkRel ρ w none b:=by
        replace hblk:=hblk.un
        unfold ABlk.puts at hb
        unfold ABlk.puts0 at hb
        split at hb
        ·rename_i cs a hcs
         rw [hcs] at hblk
         cases ha:a.w with
         | false=>rw [ha] at hb;cases hb
         | true=>
         rw [ha] at hb
         simp only [cond_true,Option.some.injEq,Prod.mk.injEq] at hb
         obtain ⟨_,rfl⟩:=hb
         rcases hblk with ⟨rfl,_⟩ | ⟨_,_,_,_,_,_,h0,_⟩
         ·exact .inl ⟨by simp [rowsOf],rfl⟩
         ·cases h0
        ·rename_i m e2 g a hcs
         rw [hcs] at hblk
         cases ha:a.w with
         | false=>rw [ha] at hb;cases hb
         | true=>
         rw [ha,cond_true] at hb
         split at hb
         ·simp only [Option.some.injEq,Prod.mk.injEq] at hb
          obtain ⟨_,rfl⟩:=hb
          have e0 : ∀ i,(bif Nat.ble k i&&Nat.blt i (k+0) then f (i-k) else g i)=g i:=fun i=>by
           cases hc:Nat.ble k i&&Nat.blt i (k+0) with
           | true=>simp only [Bool.and_eq_true,Nat.ble_eq,Nat.blt_eq] at hc;omega
           | false=>rfl
          refine ⟨fun i hi=>by have:=e0 i;simp only [this];exact hblk.1 i hi,?_⟩
          rw [rowsOf_congr fun i _=>e0 i]
          exact hblk.2
         ·cases hb
        ·cases hb
       refine hr.putNone b hln hbb (hr.below fun e=>?_)
       rw [e] at hb
       simp [ABlk.puts,ABlk.puts0,ABlk.un] at hb
      unfold copyDst at hd
      split at hd
      ·rename_i l2 base2 k2 len2 cp e2
       cases hd
       have hdv':=hdv
       simp only [VR] at hdv'
       obtain ⟨r,N,cc,a,hb',rfl,hle,hcc,_⟩:=hdv'
       by_cases hc0:0<cc
       ·obtain ⟨rfl,_⟩:=hcc hc0
        obtain ⟨w',f1,f2⟩:=wr r N hb'
        exact ⟨_,w',ρ,by rw [run _ cc rfl,f1];rfl,Ext.refl _,f2,hgo _⟩
       ·have h0:Nat.min n len=0:=Nat.le_zero.1 (Nat.le_trans (Nat.min_le_right n len) (by omega))
        have hus:=zero h0
        obtain ⟨w',f1,f2⟩:=wr r N hb'
        rw [hus] at f1
        have:w'=w:=by simp [storeCells] at f1;exact f1.symm
        subst this
        exact ⟨_,w',ρ,by rw [run _ cc rfl,hus];simp [storeCells],Ext.refl _,f2,hgo _⟩
      ·rename_i l2 len2 e2
       cases hd
       have hdv':=hdv
       simp only [VR] at hdv'
       rcases hdv' with ⟨rfl,rfl⟩ | ⟨r,N,cc,hb',rfl,hle,hcc⟩
       ·have h0:Nat.min n 0=0:=Nat.min_zero n
        have hus:=zero h0
        cases hlr:ρ l with
        | none=>exact ⟨_,w,ρ,runNil rfl rfl,Ext.refl _,none_ h0 hlr,hgo _⟩
        | some x=>
         obtain ⟨r,N⟩:=x
         obtain ⟨w',f1,f2⟩:=wr r N hlr
         rw [hus] at f1
         have:w'=w:=by simp [storeCells] at f1;exact f1.symm
         subst this
         exact ⟨_,w',ρ,runNil rfl rfl,Ext.refl _,f2,hgo _⟩
       ·obtain ⟨w',f1,f2⟩:=wr r N hb'
        simp only [Nat.zero_mul,Nat.add_zero] at f1
        exact ⟨_,w',ρ,by rw [run _ cc rfl,f1];rfl,Ext.refl _,f2,hgo _⟩
      ·cases hd
     ·exact absurd h hX.fail
    ·exact absurd h hX.fail
   ·exact absurd h hX.fail
  ·exact absurd h hX.fail
 ·exact absurd h hX.fail
end
end Go.Sx
end
