/- CertifyOpens is proved, part 4. -/
import Derived.Laws.BytesArg
import Derived.Laws.IdiomStrings
import Derived.Laws.MakeOwn
import Derived.Lib.Builder
import Derived.Test.YtleifmkjbmhlpaaGreatDoorX03
set_option linter.unusedVariables false
set_option linter.unusedSimpArgs false
set_option linter.unusedSectionVars false
section
namespace Go.Sx
open Go
section
variable {R:Type} {X:RI R} {sem:R→Prop} (hX:X.Ok sem) {I:Info} {P:Program} (hI:I.Ok P)
def AV.byte? : AV→Bool
 | .int .u8 n=>decide (0≤n)&&decide (n≤255)
 | _=>false
def AV.byte (a:AV): UInt8:=UInt8.ofNat a.intOf.toNat
def ABlk.bytes:ABlk→(o len:Nat)→Option (Bool×List UInt8)
 | .cells cs _,o,len=>some (decide (o+len≤cs.length)&&((cs.drop o).take len).all AV.byte?,((cs.drop o).take len).map AV.byte)
 | .str s _,0,len=>some (decide (len=s.length),s)
 | .str s _,o+1,len=>some (decide (o+1+len≤s.length),(s.drop (o+1)).take len)
 | .rows m 1 f _,o,len=>some (decide (o+len≤m)&&(List.range len).all (fun i=>match f (o+i) with | [a]=>a.byte? | _=>false),(List.range len).map fun i=>((f (o+i)).headD .any).byte)
 | _,_,_=>none
theorem byte_ok {ρ:Env} {a:AV} {v:Value} (h:VR ρ a v) (hb:a.byte? =true): v= .int .u8 (a.byte.toNat:Int):=by
 cases a with
 | int k n=>
  cases k<;>simp only [AV.byte?,Bool.false_eq_true,Bool.and_eq_true,decide_eq_true_eq] at hb
  simp only [VR] at h
  subst h
  simp only [AV.byte,AV.intOf]
  congr 1
  have:n.toNat<256:=by omega
  simp [UInt8.toNat_ofNat',Nat.mod_eq_of_lt this]
  omega
 | _=>simp [AV.byte?] at hb
theorem rowsOf_one {n:Nat} {f:Nat→List AV} (h : ∀ i,i<n→(f i).length=1) {i:Nat} (hi:i<n) {a:AV} (ha:f i=[a]): (rowsOf n f)[i]? =some a:=by
 obtain ⟨t,ht⟩:=rowsOf_drop h hi
 rw [Nat.mul_one] at ht
 have:((rowsOf n f).drop i)[0]? =(rowsOf n f)[i]? :=by rw [List.getElem?_drop];simp
 rw [←this,ht,ha]
 rfl
theorem ABlk.bytes_ok {ρ:Env} {w:World} {r N:Nat} {b:ABlk} {o len:Nat} {bs:List UInt8} (h:BlkRel ρ w (some (r,N)) b) (ha:b.bytes o len=some (true,bs)):
  bs.length=len∧o+len≤N∧ ∀ j (hj:j<bs.length),w.cell? ⟨r,o+j,none⟩=some (.int .u8 (bs[j].toNat:Int)):=by
 have key : ∀ (cs:List AV) rw,CellsRel ρ w (some (r,N)) cs rw→ ∀ i a,cs[i]? =some a→i<N∧ ∃ v,w.cell? ⟨r,i,none⟩=some v∧VR ρ a v:=by
  intro cs rw hc i a hi
  rcases hc with ⟨_,h0⟩ | ⟨b,N',vs,rest,el,fr,h1,h2,h3,h4,_⟩
  ·cases h0
  ·cases h1
   obtain ⟨v,hv1,hv2⟩:=h4.get i hi
   have hlt:=(List.getElem?_eq_some_iff.1 hv1).1
   refine ⟨by simp at h3;omega,v,?_,hv2⟩
   simp only [World.cell?,h2,Option.isSome_none,Bool.false_eq_true,if_false]
   rw [List.getElem?_toArray,List.getElem?_append_left hlt]
   exact hv1
 have keyN : ∀ (cs:List AV) rw,CellsRel ρ w (some (r,N)) cs rw→cs.length≤N:=by
  intro cs rw hc
  rcases hc with ⟨_,h0⟩ | ⟨b,N',vs,rest,el,fr,h1,h2,h3,h4,_⟩
  ·cases h0
  ·cases h1
   have:=h4.length_eq
   simp at h3;omega
 cases b with
 | cells cs rw=>
  simp only [ABlk.bytes,Option.some.injEq,Prod.mk.injEq,Bool.and_eq_true,decide_eq_true_eq] at ha
  obtain ⟨⟨hl,hall⟩,rfl⟩:=ha
  have hN:=keyN cs rw h
  refine ⟨by simp;omega,by omega,fun j hj=>?_⟩
  simp only [List.length_map,List.length_take,List.length_drop] at hj
  have hlt:o+j<cs.length:=by omega
  obtain ⟨_,v,hv1,hv2⟩:=key cs rw h (o+j) cs[o+j] (List.getElem?_eq_getElem hlt)
  have hm:cs[o+j]∈(cs.drop o).take len:=by
   rw [List.mem_iff_getElem?]
   exact ⟨j,by rw [List.getElem?_take_of_lt (by omega),List.getElem?_drop,List.getElem?_eq_getElem hlt]⟩
  have:=byte_ok hv2 (List.all_eq_true.1 hall _ hm)
  rw [hv1,this]
  simp
 | rows m e f rw=>
  cases e with
  | zero=>simp [ABlk.bytes] at ha
  | succ e=>cases e with
   | succ e=>simp [ABlk.bytes] at ha
   | zero=>
    simp only [ABlk.bytes,Option.some.injEq,Prod.mk.injEq,Bool.and_eq_true,decide_eq_true_eq] at ha
    obtain ⟨⟨hl,hall⟩,rfl⟩:=ha
    have hN:=keyN _ rw h.2
    rw [rowsOf_length h.1] at hN
    refine ⟨by simp,by omega,fun j hj=>?_⟩
    simp only [List.length_map,List.length_range] at hj
    have hp:=List.all_eq_true.1 hall j (List.mem_range.2 hj)
    split at hp
    ·rename_i a hfa
     obtain ⟨_,v,hv1,hv2⟩:=key _ rw h.2 (o+j) a (rowsOf_one h.1 (by omega) hfa)
     have:=byte_ok hv2 hp
     rw [hv1,this]
     simp [hfa]
    ·cases hp
 | str s rw=>
  have hN:=keyN _ rw h
  have hlen:(byteCells s).length=s.length:=by simp [byteCells]
  have hget : ∀ i (hi:i<s.length),w.cell? ⟨r,i,none⟩=some (.int .u8 (s[i].toNat:Int)):=by
   intro i hi
   obtain ⟨_,v,hv1,hv2⟩:=key _ rw h i (.int .u8 s[i].toNat) (by simp [byteCells,List.getElem?_eq_getElem hi])
   simp only [VR] at hv2
   rw [hv1,hv2]
  cases o with
  | zero=>
   simp only [ABlk.bytes,Option.some.injEq,Prod.mk.injEq,decide_eq_true_eq] at ha
   obtain ⟨rfl,rfl⟩:=ha
   exact ⟨rfl,by omega,fun j hj=>by rw [Nat.zero_add];exact hget j hj⟩
  | succ o=>
   simp only [ABlk.bytes,Option.some.injEq,Prod.mk.injEq,decide_eq_true_eq] at ha
   obtain ⟨hl,rfl⟩:=ha
   refine ⟨by simp;omega,by omega,fun j hj=>?_⟩
   simp only [List.length_take,List.length_drop] at hj
   rw [hget (o+1+j) (by omega)]
   simp
 | map | loop | dfr | iter | iset | iwalk | dead=>simp [ABlk.bytes] at ha
def aconvR (X:RI R) (I:Info) (e:TypeId) (x:AV) (H:AH) (K:AV→R): R :=
 match x with
 | .slice l base k len _ 1=>
  match I.und e,(H.get l).bytes (base+k*1) len with
  | some (.int .u8),some (ok,bs)=>X.assert (ok&&decide (0<len)) (K (.str bs))
  | _,_=>X.fail
 | .own l len 1=>
  match I.und e,(H.get l).bytes 0 len with
  | some (.int .u8),some (ok,bs)=>X.assert ok (K (.str bs))
  | _,_=>X.fail
 | .nilSlice=>
  match I.und e with
  | some (.int .u8)=>K (.str [])
  | _=>X.fail
 | _=>X.fail
include hX hI in
theorem aconvR_ok {src dst e:TypeId} (hs:I.und src=some (.slice e)) (hd:I.und dst=some .string) {x:AV} {H:AH} {K:AV→R} (h:sem (aconvR X I e x H K)):
  ∃ a,sem (K a)∧ ∀ c ρ w v,VR ρ x v→Rel c ρ H w→ ∃ u,(convert src dst v).run P w= .ok u w∧VR ρ a u:=by
 unfold aconvR at h
 split at h
 case h_1 l base k len cap=>
  split at h
  ·rename_i ok bs he hb
   obtain ⟨h1,h2⟩:=hX.assert _ _ h
   simp only [Bool.and_eq_true,decide_eq_true_eq] at h1
   obtain ⟨rfl,hpos⟩:=h1
   refine ⟨_,h2,fun c ρ w v hv hr=>⟨.string ⟨bs.toArray⟩,?_,by simp only [VR]⟩⟩
   simp only [VR] at hv
   obtain ⟨b,N,cc,a,hbb,rfl,hl,hcc,_⟩:=hv
   obtain ⟨rfl,_⟩:=hcc (by omega)
   have hblk:=hr.blk l
   rw [hbb] at hblk
   obtain ⟨e1,e2,e3⟩:=ABlk.bytes_ok hblk hb
   subst e1
   exact run_convert_bytes_back w src dst e _ cc bs (hI.und _ _ hs) (hI.und _ _ he) (hI.und _ _ hd) fun j hj=>by rw [addr_add];exact e3 j hj
  ·exact absurd h hX.fail
 case h_2 l len=>
  split at h
  ·rename_i ok bs he hb
   obtain ⟨h1,h2⟩:=hX.assert _ _ h
   subst h1
   refine ⟨_,h2,fun c ρ w v hv hr=>⟨.string ⟨bs.toArray⟩,?_,by simp only [VR]⟩⟩
   simp only [VR] at hv
   rcases hv with ⟨rfl,rfl⟩ | ⟨b,N,cc,hbb,rfl,hl,hcc⟩
   ·have e1:bs=[]:=by
     cases hx:H.get l with
     | cells cs rw=>rw [hx] at hb;simp [ABlk.bytes] at hb;exact hb
     | rows m e f rw=>
      rw [hx] at hb
      cases e with
      | zero=>simp [ABlk.bytes] at hb
      | succ e=>cases e with
       | succ e=>simp [ABlk.bytes] at hb
       | zero=>simp [ABlk.bytes] at hb;exact hb
     | str s rw=>rw [hx] at hb;simp [ABlk.bytes] at hb;exact List.eq_nil_of_length_eq_zero (by rw [←hb.2];exact hb.1.symm)
     | map | loop | dfr | iter | iset | iwalk | dead=>rw [hx] at hb;simp [ABlk.bytes] at hb
    subst e1
    rw [run_convert_bytes_nil w src e (hI.und _ _ hs) (hI.und _ _ he) 0 0 dst (hI.und _ _ hd)]
    rfl
   ·have hblk:=hr.blk l
    rw [hbb] at hblk
    obtain ⟨e1,e2,e3⟩:=ABlk.bytes_ok hblk hb
    subst e1
    exact run_convert_bytes_back w src dst e _ cc bs (hI.und _ _ hs) (hI.und _ _ he) (hI.und _ _ hd) fun j hj=>by rw [addr_add];exact e3 j hj
  ·exact absurd h hX.fail
 case h_3=>
  split at h
  ·rename_i he
   refine ⟨_,h,fun c ρ w v hv hr=>⟨.string ⟨#[]⟩,?_,by simp only [VR]⟩⟩
   simp only [VR] at hv;subst hv
   rw [run_convert_bytes_nil w src e (hI.und _ _ hs) (hI.und _ _ he) 0 0 dst (hI.und _ _ hd)]
   rfl
  ·exact absurd h hX.fail
 case h_4=>exact absurd h hX.fail
def aconvert (X:RI R) (I:Info) (src dst:TypeId) (x:AV) (H:AH) (K:AV→AH→R): R :=
 match I.und src,I.und dst,x with
 | some _,some (.int k),.int _ n=>X.assert (fits I.wr k n).1 (K (.int k (fits I.wr k n).2) H)
 | some _,some .string,.str s=>K (.str s) H
 | some .string,some (.slice e),.str s=>
  match I.und e with
  | some (.int .u8)=>K (.slice H.n 0 0 s.length none 1) (H.new (.str s (.ty e)))
  | _=>X.fail
 | some (.slice e),some .string,x=>aconvR X I e x H (fun v=>K v H)
 | some (.pointer t),some .unsafePointer,.ptr l k e j=>
  match I.size t,H.get l with
  | some (_+1),.cells cs _=>X.assert (decide (k*e+j<cs.length)) (K (.ptr l k e j) H)
  | _,_=>X.fail
 | some .unsafePointer,some (.pointer u),.ptr l k e j=>
  match I.size u,H.get l with
  | some (n+1),.cells cs (.ty t)=>X.assert (Nat.beq t u&&Nat.beq (k*e+j) 0&&decide (n+1≤cs.length)) (K (.ptr l k e j) H)
  | _,_=>X.fail
 | _,_,_=>X.fail
theorem liesAt_one {P:Program} {u:TypeId} {n:Nat} (hu:P.cellsOf u=n+1) {c:Nat} (hc:1≤c): liesAt P P.depth u c 0 u 1=true:=by
 have hd : ∃ d,P.depth=d+1:=⟨_,rfl⟩
 obtain ⟨d,hd⟩:=hd
 have hs:sameLayout P P.depth u u=true:=by rw [hd];simp [sameLayout]
 have hr:rowAt P (sameLayout P P.depth · u) P.depth u c 0 1=true:=by
  rw [hd]
  simp only [rowAt,hu]
  rw [←hd]
  simp [hs,hc]
 rw [hd]
 simp only [liesAt]
 rw [hr];rfl
theorem CellsRel.shape {ρ:Env} {w:World} {r N:Nat} {cs:List AV} {a:Access} (h:CellsRel ρ w (some (r,N)) cs a): ∃ el,w.shape? r=some (el,N)∧cs.length≤N∧ ∀ t,a= .ty t→el=t:=by
 rcases h with ⟨_,h0⟩ | ⟨b,N',vs,rest,el,fr,h1,h2,h3,h4,h5,_⟩
 ·cases h0
 ·cases h1
  have:=h4.length_eq
  refine ⟨el,by simp only [World.shape?,h2];simp only [List.size_toArray,h3],by simp at h3;omega,h5.ty⟩
include hX hI in
theorem aconvert_ok {src dst:TypeId} {x:AV} {H:AH} {K:AV→AH→R} (h:sem (aconvert X I src dst x H K)):
  ∃ a H',sem (K a H')∧ ∀ c ρ w v,VR ρ x v→Rel c ρ H w→Gives P (convert src dst v) c ρ w a H':=by
 unfold aconvert at h
 split at h
 case h_1 d k k0 n hs hd=>
  obtain ⟨h1,h2⟩:=hX.assert _ _ h
  have:=fits_ok (wr:=I.wr) (k:=k) (n:=n) (m:=(fits I.wr k n).2) (by rw [←h1])
  refine ⟨_,_,h2,fun c ρ w v hv hr=>Gives.same (v:=.int k (fits I.wr k n).2) ?_ hr (by simp only [VR])⟩
  simp only [VR] at hv;subst hv
  simp only [convert,Sem.run_bind,hI.run_und w hs,hI.run_und w hd,Result.andThen_ok]
  cases d<;>simp [Conv.intToInt,this]
 case h_2 d s hs hd=>
  refine ⟨_,_,h,fun c ρ w v hv hr=>Gives.same (v:=v) ?_ hr hv⟩
  simp only [VR] at hv;subst hv
  simp only [convert,Sem.run_bind,hI.run_und w hs,hI.run_und w hd,Result.andThen_ok]
  cases d<;>simp
 case h_3 e s hs hd=>
  split at h
  ·rename_i he
   refine ⟨_,_,h,fun c ρ w v hv hr=>?_⟩
   simp only [VR] at hv;subst hv
   have e1:=run_bytes_of_string (P:=P) w src dst e ⟨s.toArray⟩ (hI.und _ _ hs) (hI.und _ _ hd) (hI.und _ _ he)
   have hz:(⟨s.toArray⟩: ByteArray).size=s.length:=by simp [ByteArray.size]
   rw [hz] at e1
   generalize hg:grownCap w s.length 0 e=cp at e1
   have hcp:s.length≤cp:=by rw [←hg];simp [grownCap,Question.cut]
   have hbr:(bytesRow ⟨s.toArray⟩ cp)=((s.map fun b=>Value.int .u8 b.toNat)++List.replicate (cp-s.length) (Value.int .u8 0)).toArray:=by
    simp [bytesRow,hz]
   have hr1:=hr.drawn (w.drawn+1)
   have hrows : ∀ i,i<s.length→((fun i=>[AV.int .u8 (s.getD i 0).toNat]) i).length=1:=fun i _=>rfl
   have hvs : ∀ ρ':Env,VRs ρ' (rowsOf s.length (fun i=>[AV.int .u8 (s.getD i 0).toNat])) (s.map fun b=>Value.int .u8 b.toNat):=by
    intro ρ'
    refine VRs.of_get (by rw [rowsOf_length hrows];simp) fun i a v h1 h2=>?_
    have hi:i<s.length:=by
     have:=(List.getElem?_eq_some_iff.1 h2).1
     simpa using this
    rw [rowsOf_one hrows hi rfl] at h1
    cases h1
    simp only [List.getElem?_map,List.getElem?_eq_getElem hi,Option.map_some,Option.some.injEq] at h2
    subst h2
    simp [VR,List.getD_eq_getElem?_getD,List.getElem?_eq_getElem hi]
   obtain ⟨hx,hr2⟩:=hr1.new (.cells (bytesRow ⟨s.toArray⟩ cp) e ((bytesRow ⟨s.toArray⟩ cp).size,(bytesRow ⟨s.toArray⟩ cp).size+1)) cp
    (.str s (.ty e)) fun w' hw'=>by
     refine .inr ⟨_,_,s.map (fun b=>Value.int .u8 b.toNat),List.replicate (cp-s.length) (Value.int .u8 0),e,_,rfl,by rw [←hbr];exact hw',by simp;omega,(rowsOf_bytes s)▸hvs _,⟨fun _ i hi=>by rw [hbr];simp;omega,fun e he=>by cases he;rfl⟩,fun v hv=>?_,fun e=>by cases e⟩
     ·simp only [List.mem_map] at hv;obtain ⟨_,_,rfl⟩:=hv;rfl
   refine ⟨_,_,_,e1,hx,hr2,?_,⟨by simp,fun k hk=>?_⟩⟩
   ·simp only [VR]
    exact ⟨w.heap.size,cp,cp,_,Env.put_same _ _ _,rfl,hcp,fun _=>⟨by simp,by omega⟩,fun c' hc'=>by cases hc'⟩
   ·exact heap_push_old hk
  ·exact absurd h hX.fail
 case h_4 hs hd hne=>
  obtain ⟨a,h1,h2⟩:=aconvR_ok hX hI hs hd h
  exact ⟨a,H,h1,fun c ρ w v hv hr=>by
   obtain ⟨u,h3,h4⟩:=h2 c ρ w v hv hr
   exact Gives.same h3 hr h4⟩
 case h_5 t l k e j hs hd=>
  split at h
  ·rename_i n cs a hn hl
   obtain ⟨h1,h2⟩:=hX.assert _ _ h
   simp only [decide_eq_true_eq] at h1
   refine ⟨_,_,h2,fun c ρ w v hv hr=>?_⟩
   have hv':=hv
   simp only [VR] at hv'
   obtain ⟨b,N,hb,rfl⟩:=hv'
   have hblk:=hr.blk l
   rw [hb,hl] at hblk
   obtain ⟨el,e1,e2,_⟩:=CellsRel.shape hblk
   obtain ⟨i,i1,i2⟩:=hI.size _ _ hn
   exact Gives.same (Lib.run_to_unsafe w ⟨b,k*e+j,none⟩ (hI.und _ _ hs) (hI.und _ _ hd) i1 (by omega) e1 (show k*e+j<N by omega)) hr hv
  ·exact absurd h hX.fail
 case h_6 u l k e j hs hd=>
  split at h
  ·rename_i n cs t hn hl
   obtain ⟨h1,h2⟩:=hX.assert _ _ h
   simp only [Bool.and_eq_true,decide_eq_true_eq] at h1
   obtain ⟨⟨h1,h3⟩,h4⟩:=h1
   have h1:=Nat.eq_of_beq_eq_true h1
   have h3:=Nat.eq_of_beq_eq_true h3
   subst h1
   refine ⟨_,_,h2,fun c ρ w v hv hr=>?_⟩
   have hv':=hv
   simp only [VR] at hv'
   obtain ⟨b,N,hb,rfl⟩:=hv'
   have hblk:=hr.blk l
   rw [hb,hl] at hblk
   obtain ⟨el,e1,e2,e3⟩:=CellsRel.shape hblk
   have:=e3 _ rfl
   subst this
   obtain ⟨i,i1,i2⟩:=hI.size _ _ hn
   have hc:P.cellsOf el=n+1:=by simp [Program.cellsOf,i1,i2]
   refine Gives.same (Lib.run_from_unsafe w ⟨b,k*e+j,none⟩ (hI.und _ _ hs) (hI.und _ _ hd) i1 e1 ?_) hr hv
   show liesAt P P.depth el (N/P.cellsOf el) (k*e+j) el 1=true
   rw [h3,hc]
   exact liesAt_one hc (by rw [Nat.le_div_iff_mul_le (by omega)];omega)
  ·exact absurd h hX.fail
 case h_7=>exact absurd h hX.fail
end
end Go.Sx
end
section
namespace Go.Sx
open Go
section
variable {R:Type} {X:RI R} {sem:R→Prop} (hX:X.Ok sem) {I:Info} {P:Program} (hI:I.Ok P)
theorem rowsOf_const {zs:List AV} {n:Nat} (hz:0<zs.length) {i:Nat} (hi:i<n*zs.length): (rowsOf n (fun _=>zs))[i]? =zs[i%zs.length]? :=by
 have hk:i/zs.length<n:=Nat.div_lt_of_lt_mul (by rw [Nat.mul_comm];exact hi)
 obtain ⟨t,ht⟩:=rowsOf_drop (n:=n) (e:=zs.length) (f:=fun _=>zs) (fun _ _=>rfl) hk
 have h1:i/zs.length*zs.length+i%zs.length=i:=by rw [Nat.mul_comm];exact Nat.div_add_mod i zs.length
 have h2:((rowsOf n (fun _=>zs)).drop (i/zs.length*zs.length))[i%zs.length]? =(rowsOf n (fun _=>zs))[i]? :=by rw [List.getElem?_drop,h1]
 rw [←h2,ht,List.getElem?_append_left (Nat.mod_lt _ hz)]
def amakeSlice (X:RI R) (I:Info) (t:TypeId) (l c:AV) (H:AH) (K:AV→AH→R): R :=
 match I.und t,l,c with
 | some (.slice e),.int _ n,.int _ m=>
  match I.size e,I.bytes e,(I.zero e).bind AV.cells? with
  | some sz,some by_,some zs=>
   if zs.length=sz∧0<sz then
    X.assert (decide (0≤n)&&decide (n≤m)&&decide ((by_:Int)*m≤281474976710656)&&decide (m≤9223372036854775807))
     (K (.slice H.n 0 0 n.toNat (some m.toNat) sz) (H.new (.rows n.toNat sz (fun _=>zs) (.ty e))))
   else X.fail
  | _,_,_=>X.fail
 | _,_,_=>X.fail
include hX hI in
theorem amakeSlice_ok {t:TypeId} {l cv:AV} {H:AH} {K:AV→AH→R} (h:sem (amakeSlice X I t l cv H K)):
  ∃ a H',sem (K a H')∧ ∀ c ρ w v u,VR ρ l v→VR ρ cv u→Rel c ρ H w→Gives P (Instr.makeSlice t v u) c ρ w a H':=by
 unfold amakeSlice at h
 split at h
 ·rename_i e k1 n k2 m hd
  split at h
  ·rename_i sz by_ zs hsz hby hz
   split at h
   ·rename_i hc
    obtain ⟨hc1,hc2⟩:=hc
    obtain ⟨ha,hK⟩:=hX.assert _ _ h
    simp only [Bool.and_eq_true,decide_eq_true_eq] at ha
    obtain ⟨⟨⟨h1,h2⟩,h3⟩,h4⟩:=ha
    refine ⟨_,_,hK,fun c ρ w v u hv hu hr=>?_⟩
    simp only [VR] at hv hu
    subst hv hu
    simp only [Option.bind_eq_some_iff] at hz
    obtain ⟨za,hz1,hz2⟩:=hz
    obtain ⟨i,z,e1,e2,e3⟩:=hI.zero e za hz1
    obtain ⟨i',e4,e5⟩:=hI.size e sz hsz
    obtain ⟨i'',e6,e7⟩:=hI.bytes e by_ hby
    rw [e1] at e4 e6
    cases e4
    cases e6
    have hcells:=VR.cells (ofVal_ok ρ z za e3) hz2
    have hzl:z.cells.size=sz:=by rw [←Array.length_toList,←hcells.length_eq,hc1]
    have run:=run_make (P:=P) w t e i z (hI.und _ _ hd) e1 e2 k1 k2 n m h1 h2 (by rw [e7];exact h3) h4
    rw [e5] at run
    have hmul:n.toNat*sz≤m.toNat*sz:=Nat.mul_le_mul_right _ (by omega)
    have hml:(madeCells z.cells (m.toNat*sz)).toList.length=m.toNat*sz:=by simp [size_madeCells]
    have hget : ∀ j,j<m.toNat*sz→(madeCells z.cells (m.toNat*sz)).toList[j]? =z.cells.toList[j%sz]? :=by
     intro j hj
     have hlt:j%z.cells.size<z.cells.size:=Nat.mod_lt _ (by omega)
     simp only [madeCells,Array.toList_map,Array.toList_range,List.getElem?_map,List.getElem?_range hj,Option.map_some]
     rw [getElem!_pos z.cells _ hlt,Array.getElem?_toList,←hzl,Array.getElem?_eq_getElem hlt]
    have hvs : ∀ ρ',VRs ρ' zs z.cells.toList→VRs ρ' (rowsOf n.toNat (fun _=>zs)) ((madeCells z.cells (m.toNat*sz)).toList.take (n.toNat*sz)):=by
     intro ρ' hzz
     refine VRs.of_get (by rw [rowsOf_length (e:=sz) (fun _ _=>hc1)];simp [size_madeCells,Nat.min_eq_left hmul]) fun j a v h5 h6=>?_
     have hj:j<n.toNat*sz:=by
      have:=(List.getElem?_eq_some_iff.1 h5).1
      rwa [rowsOf_length (e:=sz) (fun _ _=>hc1)] at this
     rw [rowsOf_const (by omega) (by rw [hc1];exact hj),hc1] at h5
     rw [List.getElem?_take_of_lt hj,hget j (by omega)] at h6
     obtain ⟨v',h7,h8⟩:=hzz.get _ h5
     rw [h6] at h7;cases h7;exact h8
    have hones:(rowsOf n.toNat (fun _=>zs)).all AV.one=true:=by
     simp only [rowsOf,List.all_flatMap,List.all_eq_true]
     exact fun _ _=>List.all_eq_true.1 (AV.cells_ones hz2)
    obtain ⟨hx,hr2⟩:=hr.new (.cells (madeCells z.cells (m.toNat*sz)) e) (m.toNat*sz) (.rows n.toNat sz (fun _=>zs) (.ty e)) fun w' hw'=>by
     refine ⟨fun _ _=>hc1,.inr ⟨_,_,(madeCells z.cells (m.toNat*sz)).toList.take (n.toNat*sz),(madeCells z.cells (m.toNat*sz)).toList.drop (n.toNat*sz),e,(0,0),rfl,?_,by simp [size_madeCells],hvs _ (VRs.ext (Env.ext_put _ (hr.top _ (Nat.le_refl _))) _ _ hcells),⟨fun _ j _ hh=>by simp at hh,fun e he=>by cases he;rfl⟩,fun v hv=>VRs.ones (hvs ρ hcells) hones v hv,fun e=>by cases e⟩⟩
     rw [List.take_append_drop]
     simpa using hw'
    refine ⟨_,_,_,run,hx,hr2,?_,Pres.push _ _⟩
    simp only [VR]
    exact ⟨w.heap.size,m.toNat*sz,m.toNat,_,Env.put_same _ _ _,rfl,by omega,fun _=>⟨by simp,by omega⟩,fun c' hc'=>by cases hc';rfl⟩
   ·exact absurd h hX.fail
  ·exact absurd h hX.fail
 ·exact absurd h hX.fail
def asame:TypeDesc→AV→AV→Option Bool
 | .int _,.int k a,.int k' b=>if k=k' then some (a==b) else none
 | .string,.str a,.str b=>some (a==b)
 | .bool,.bool a,.bool b=>some (a==b)
 | _,_,_=>none
def keq (I:Info) (kt:TypeId) (kd:TypeDesc) (a b:AV): Option Bool :=
 match kd with
 | .array _ _=>aeq I 10000 kt a b
 | kd=>asame kd a b
theorem keq_asame (I:Info) (kt:TypeId) (kd:TypeDesc) (h : ∀ n e,kd≠ .array n e): keq I kt kd=asame kd:=by
 funext a b
 unfold keq
 split
 ·exact absurd rfl (h _ _)
 ·rfl
def keyOk (I:Info) (kd:TypeDesc) (k:AV): Bool :=
 match kd,k with
 | .array n e,.agg cs=>match I.und e,I.size e with
  | some (.int _),some m=>(List.range n).all fun i=>(apart I e cs (i*m)).isSome
  | _,_=>false
 | .array _ _,_=>false
 | kd,k=>(asame kd k k).isSome
def afind (X:RI R) (eq:AV→AV→Option Bool) (k:AV) (none_:R) (found:AV→R): List (AV×AV)→R
 | []=>none_
 | (k',v)::es=>match eq k k' with
  | some b=>X.cond b (fun _=>found v) (fun _=>afind X eq k none_ found es)
  | none=>X.fail
def alookup (X:RI R) (I:Info) (t:TypeId) (m k:AV) (ok:Bool) (H:AH) (K:AV→R): R :=
 match I.und t with
 | some (.map kt e)=>
  match I.und kt,I.zero e with
  | some kd,some z=>
   match (match m with
    | .map none=>some []
    | .map (some l)=>match H.get l with
     | .map es=>some es
     | _=>none
    | _=>none:Option (List (AV×AV))) with
   | some es=>
    match keyOk I kd k with
    | true=>match isMark es with
     | false=>afind X (keq I kt kd) k (K (bif ok then .tup [z,.bool false] else z)) (fun v=>K (bif ok then .tup [v,.bool true] else v)) es
     | true=>match kd with
      | .array _ _=>X.fail
      | _=>afind X (asame kd) k X.fail (fun v=>K (bif ok then .tup [v,.bool true] else v)) (unmark es)
    | false=>X.fail
   | none=>X.fail
  | _,_=>X.fail
 | _=>X.fail
theorem asame_ok {kd:TypeDesc} {a b:AV} {r:Bool} (h:asame kd a b=some r) {ρ:Env} {u v:Value} (hu:VR ρ a u) (hv:VR ρ b v): Instr.sameNow kd u v=some r:=by
 unfold asame at h
 split at h
 ·split at h
  ·rename_i hk
   simp only [VR] at hu hv
   subst hu hv
   simp [Instr.sameNow,hk];exact Option.some.inj h
  ·cases h
 ·simp only [VR] at hu hv
  subst hu hv
  simp only [Instr.sameNow,beq_toListBytes,ByteArray.toList_mk]
  exact h
 ·simp only [VR] at hu hv
  subst hu hv
  simpa [Instr.sameNow] using h
 ·cases h
def asel (eq:AV→AV→Option Bool) (k:AV): List (AV×AV)→Option (Option (Nat×AV))
 | []=>some none
 | (k',v)::es=>match eq k k' with
  | some true=>some (some (0,v))
  | some false=>match asel eq k es with
   | some (some (i,v))=>some (some (i+1,v))
   | r=>r
  | none=>none
theorem afind_sem {eq:AV→AV→Option Bool} {k:AV} {none_:R} {found:AV→R} (hX:X.Ok sem): ∀ {es:List (AV×AV)},sem (afind X eq k none_ found es)→
  (sem none_∧asel eq k es=some none)∨ ∃ i v,sem (found v)∧asel eq k es=some (some (i,v))
 | [],h=> .inl ⟨h,rfl⟩
 | (k',v)::es,h=>by
  simp only [afind] at h
  split at h
  ·rename_i b hb
   have hc:=hX.cond _ _ _ h
   cases b with
   | true=>exact .inr ⟨0,v,by simpa using hc,by simp [asel,hb]⟩
   | false=>
    simp only [Bool.false_eq_true,if_false] at hc
    rcases afind_sem hX hc with ⟨h1,h2⟩ | ⟨i,v',h1,h2⟩
    ·exact .inl ⟨h1,by simp [asel,hb,h2]⟩
    ·exact .inr ⟨i+1,v',h1,by simp [asel,hb,h2]⟩
  ·exact absurd h hX.fail
theorem asel_now {kd:TypeDesc} {k:AV} {ρ:Env} {kv:Value} (hk:VR ρ k kv): ∀ {es:List (AV×AV)} {ms:List MapEntry} {r:Option (Nat×AV)},asel (asame kd) k es=some r→
  VRs ρ (es.map (·.1)) (ms.map (·.key))→VRs ρ (es.map (·.2)) (ms.map (·.val))→ ∀ j,
  match r with
  | none=>Instr.findNow kd kv ms j=some none
  | some (i,v)=> ∃ m,ms[i]? =some m∧Instr.findNow kd kv ms j=some (some (j+i,m.val))∧VR ρ v m.val
 | [],ms,r,h,h1,h2,j=>by
  have:ms=[]:=by simp only [List.map_nil,VRs] at h1;simpa using h1
  subst this
  simp only [asel,Option.some.injEq] at h
  subst h
  rfl
 | (k',v)::es,[],r,h,h1,h2,j=>by simp [VRs] at h1
 | (k',v)::es,m::ms,r,h,h1,h2,j=>by
  simp only [List.map_cons,VRs.cons_iff] at h1 h2
  simp only [asel] at h
  split at h
  ·rename_i hb
   cases h
   exact ⟨m,rfl,by simp [Instr.findNow,asame_ok hb hk h1.1],h2.1⟩
  ·rename_i hb
   have hs:=asame_ok hb hk h1.1
   split at h
   ·rename_i i v' hi
    cases h
    obtain ⟨m',h3,h4,h5⟩:=asel_now hk hi h1.2 h2.2 (j+1)
    exact ⟨m',by simpa using h3,by simp [Instr.findNow,hs,h4];omega,h5⟩
   ·have ih:=asel_now hk h h1.2 h2.2 (j+1)
    cases r with
    | none=>simpa [Instr.findNow,hs] using ih
    | some p=>
     rename_i hno
     exact absurd h (hno p.1 p.2)
  ·cases h
include hI in
theorem asel_ask {kt:TypeId} {k:AV} {ρ:Env} {kv:Value} (hk:VR ρ k kv) (w:World): ∀ {es:List (AV×AV)} {ms:List MapEntry} {r:Option (Nat×AV)},asel (aeq I 10000 kt) k es=some r→
  VRs ρ (es.map (·.1)) (ms.map (·.key))→VRs ρ (es.map (·.2)) (ms.map (·.val))→ ∀ j,
  match r with
  | none=>(Instr.findAsking kt kv ms j).run P w= .ok none w
  | some (i,v)=> ∃ m,ms[i]? =some m∧(Instr.findAsking kt kv ms j).run P w= .ok (some (j+i,m.val)) w∧VR ρ v m.val
 | [],ms,r,h,h1,h2,j=>by
  have:ms=[]:=by simp only [List.map_nil,VRs] at h1;simpa using h1
  subst this
  simp only [asel,Option.some.injEq] at h
  subst h
  simp [Instr.findAsking]
 | (k',v)::es,[],r,h,h1,h2,j=>by simp [VRs] at h1
 | (k',v)::es,m::ms,r,h,h1,h2,j=>by
  simp only [List.map_cons,VRs.cons_iff] at h1 h2
  simp only [asel] at h
  split at h
  ·rename_i hb
   cases h
   have he:=aeq_ok hI 10000 kt _ _ _ hb ρ kv m.key w hk h1.1
   exact ⟨m,rfl,by simp [Instr.findAsking,Op.equal,Op.maxDepth,he],h2.1⟩
  ·rename_i hb
   have he:=aeq_ok hI 10000 kt _ _ _ hb ρ kv m.key w hk h1.1
   split at h
   ·rename_i i v' hi
    cases h
    obtain ⟨m',h3,h4,h5⟩:=asel_ask hk w hi h1.2 h2.2 (j+1)
    exact ⟨m',by simpa using h3,by simp [Instr.findAsking,Op.equal,Op.maxDepth,he,h4];omega,h5⟩
   ·have ih:=asel_ask hk w h h1.2 h2.2 (j+1)
    cases r with
    | none=>simpa [Instr.findAsking,Op.equal,Op.maxDepth,he] using ih
    | some p=>
     rename_i hno
     exact absurd h (hno p.1 p.2)
  ·cases h
include hI in
theorem findKey_run {kt:TypeId} {kd:TypeDesc} (hd:I.und kt=some kd) {k:AV} {ρ:Env} {kv:Value} (hk:VR ρ k kv) (w:World) {es:List (AV×AV)} {ms:List MapEntry} {r:Option (Nat×AV)} (h:asel (keq I kt kd) k es=some r)
  (h1:VRs ρ (es.map (·.1)) (ms.map (·.key))) (h2:VRs ρ (es.map (·.2)) (ms.map (·.val))):
  match r with
  | none=>(Instr.findKey kt kv ms).run P w= .ok none w
  | some (i,v)=> ∃ m,ms[i]? =some m∧(Instr.findKey kt kv ms).run P w= .ok (some (i,m.val)) w∧VR ρ v m.val:=by
 cases kd with
 | array n e=>
  have h3:=asel_ask (P:=P) hI hk w h h1 h2 0
  have hnow:Instr.findNow (.array n e) kv ms 0=none∨ms=[]:=by
   cases ms with
   | nil=>exact .inr rfl
   | cons m ms=>exact .inl (by simp [Instr.findNow,Instr.sameNow])
  rcases hnow with hnow | rfl
  ·cases r with
   | none=>simpa [Instr.findKey,hI.run_und w hd,hnow] using h3
   | some p=>simpa [Instr.findKey,hI.run_und w hd,hnow] using h3
  ·have hes:es=[]:=by simpa [VRs] using h1.length_eq
   subst hes
   simp only [asel,Option.some.injEq] at h
   subst h
   simp [Instr.findKey,hI.run_und w hd,Instr.findNow]
 | _=>
  rw [keq_asame I kt _ (by intro _ _ e;cases e)] at h
  have h3:=asel_now hk h h1 h2 0
  cases r with
  | none=>simp [Instr.findKey,hI.run_und w hd,h3]
  | some p=>
   obtain ⟨m,h4,h5,h6⟩:=h3
   exact ⟨m,h4,by simp [Instr.findKey,hI.run_und w hd,h5],h6⟩
theorem asame_kind {kd:TypeDesc} {k:AV} {r:Bool} (h:asame kd k k=some r): (∃ q,kd= .int q)∨kd= .string∨kd= .bool:=by
 unfold asame at h
 split at h
 ·exact .inl ⟨_,rfl⟩
 ·exact .inr (.inl rfl)
 ·exact .inr (.inr rfl)
 ·cases h
theorem forIn_unit {P:Program} (f:Nat→Sem Unit) (w:World): ∀ (is:List Nat),(∀ i∈is,(f i).run P w= .ok () w)→
  (forIn (m:=Sem) is PUnit.unit (fun i _=>do f i;pure (ForInStep.yield PUnit.unit))).run P w= .ok PUnit.unit w
 | [],_=>by simp
 | i::is,h=>by
  simp only [List.forIn_cons,Sem.run_bind,h i List.mem_cons_self,Result.andThen_ok,Sem.run_pure]
  exact forIn_unit f w is fun j hj=>h j (List.mem_cons_of_mem _ hj)
include hI in
theorem run_checkKey {kt:TypeId} {kd:TypeDesc} (hd:I.und kt=some kd) {k:AV} (hk:keyOk I kd k=true) (emp:Bool) (n:Nat) {ρ:Env} {v:Value} (hv:VR ρ k v) (w:World): (Instr.checkKey emp (n+2) kt v).run P w= .ok () w:=by
 unfold keyOk at hk
 split at hk
 ·rename_i len e cs
  split at hk
  ·rename_i q m he hm
   simp only [VR] at hv
   obtain ⟨vs,rfl,hvs⟩:=hv
   unfold Instr.checkKey
   simp only [Sem.run_bind,hI.run_und w hd,Result.andThen_ok]
   simp only [Std.Legacy.Range.forIn_eq_forIn_range',Std.Legacy.Range.size,Nat.sub_zero,Nat.add_one_sub_one,Nat.div_one]
   have key : ∀ i∈List.range' 0 len,((do Instr.checkKey emp (n+1) e (←part e vs.toArray (i*(←sizeOf e))): Sem Unit)).run P w= .ok () w:=by
    intro i hi
    have hi':i∈List.range len:=by simpa [List.range_eq_range'] using hi
    have:=List.all_eq_true.1 hk i hi'
    obtain ⟨a,ha⟩:=Option.isSome_iff_exists.1 this
    obtain ⟨u,hu,_⟩:=apart_ok hI ha hvs w
    simp only [Sem.run_bind,hI.run_size w hm,Result.andThen_ok,hu]
    unfold Instr.checkKey
    simp only [Sem.run_bind,hI.run_und w he,Result.andThen_ok]
    rfl
   have:=forIn_unit (P:=P) (fun i=>(do Instr.checkKey emp (n+1) e (←part e vs.toArray (i*(←sizeOf e))): Sem Unit)) w (List.range' 0 len) key
   simp at this⊢
   rw [this]
   rfl
  ·cases hk
 ·cases hk
 ·rename_i h1 h2
  obtain ⟨r,hr⟩:=Option.isSome_iff_exists.1 hk
  have hkind:=asame_kind hr
  unfold Instr.checkKey
  simp only [Sem.run_bind,hI.run_und w hd,Result.andThen_ok]
  rcases hkind with ⟨q,rfl⟩ | rfl | rfl<;>cases v<;>rfl
include hX hI in
theorem alookup_ok {t:TypeId} {m k:AV} {ok:Bool} {H:AH} {K:AV→R} (h:sem (alookup X I t m k ok H K)):
  ∃ a,sem (K a)∧Yields2 P H (fun mv kv=>Instr.lookup t mv kv ok) m k a:=by
 unfold alookup at h
 split at h
 ·rename_i kt e hd
  split at h
  ·rename_i kd z hkd hz
   split at h
   ·rename_i es hes
    split at h
    ·rename_i hkind
     have hmap : ∀ c ρ w mv,VR ρ m mv→Rel c ρ H w→ ∃ ms:List MapEntry,MapRel ρ es ms∧
       ∀ kv,(Instr.lookup t mv kv ok).run P w=((do
        Instr.checkKey ms.toArray.isEmpty 10000 kt kv
        let (v,found)←match ←Instr.findKey kt kv ms with
         | some (_,v)=>pure (v,true)
         | none=>pure (←zeroValue e,false)
        pure (if ok then .tuple #[v,.bool found] else v)): Sem Value).run P w:=by
      intro c ρ w mv hm hr
      cases m with
      | map l=>
       cases l with
       | none=>
        simp only [Option.some.injEq] at hes
        subst hes
        simp only [VR] at hm
        subst hm
        exact ⟨[],MapRel.mk rfl (by simp [VRs]) (by simp [VRs]),fun kv=>by simp only [Instr.lookup,Sem.run_bind,hI.run_und w hd,Result.andThen_ok,Sem.run_pure];rfl⟩
       | some l=>
        simp only at hes
        cases hb:H.get l with
        | map es'=>
         rw [hb] at hes
         cases hes
         simp only [VR] at hm
         obtain ⟨b,N,hbb,rfl⟩:=hm
         have hblk:=hr.blk l
         rw [hb,hbb] at hblk
         obtain ⟨b',N',ms,clock,e1,e2,e34,_⟩:=hblk
         cases e1
         have hg:(getObj b).run P w= .ok (.map ms.toArray clock) w:=by simp [getObj,Sem.run,e2]
         exact ⟨ms,e34,fun kv=>by simp only [Instr.lookup,Sem.run_bind,hI.run_und w hd,Result.andThen_ok,Sem.run_pure,hg];rfl⟩
        | _=>rw [hb] at hes;simp at hes
      | _=>simp at hes
     split at h
     rotate_left
     ·rename_i hmk
      have hnar : ∀ n e,kd≠ .array n e:=fun n e hh=>by subst hh;exact hX.fail h
      have h:sem (afind X (asame kd) k X.fail (fun v=>K (bif ok then .tup [v,.bool true] else v)) (unmark es)):=by
       cases kd<;>first | exact h | exact absurd rfl (hnar _ _)
      rcases afind_sem hX h with ⟨h1,_⟩ | ⟨i,v,h1,h2⟩
      ·exact absurd h1 hX.fail
      ·refine ⟨_,h1,fun c ρ w mv kv hm hk hr=>?_⟩
       obtain ⟨ms,⟨ms',g1,g2,_,g4⟩,h3⟩:=hmap c ρ w mv hm hr
       obtain ⟨me,_,g5,g6⟩:=asel_now hk h2 g1 g2 0
       obtain ⟨i',g7⟩:=g4 _ _ _ _ g5
       have hck:=run_checkKey (P:=P) hI hkd hkind ms.toArray.isEmpty 9998 hk w
       have hfind:(Instr.findKey kt kv ms).run P w= .ok (some (i',me.val)) w:=by simp [Instr.findKey,hI.run_und w hkd,g7]
       rw [h3 kv]
       refine ⟨if ok then .tuple #[me.val,.bool true] else me.val,?_,?_⟩
       ·simp only [Sem.run_bind,hck,Result.andThen_ok,hfind,Sem.run_pure]
       ·cases ok
        ·simpa using g6
        ·simp only [cond_true,if_true,VR];exact ⟨[me.val,.bool true],rfl,VRs.cons_iff.2 ⟨g6,VRs.cons_iff.2 ⟨by simp only [VR],by simp [VRs]⟩⟩⟩
     rename_i hmk
     have fin : ∀ c ρ w mv kv,VR ρ m mv→VR ρ k kv→Rel c ρ H w→ ∀ r',asel (keq I kt kd) k es=some r'→ ∃ u,(Instr.lookup t mv kv ok).run P w= .ok u w∧
       VR ρ (match r' with | none=>(bif ok then .tup [z,.bool false] else z) | some p=>(bif ok then .tup [p.2,.bool true] else p.2)) u:=by
      intro c ρ w mv kv hm hk hr r' hsel
      obtain ⟨ms,h12,h3⟩:=hmap c ρ w mv hm hr
      obtain ⟨h1,h2⟩:=h12.plain hmk
      have hnow:=findKey_run (P:=P) hI hkd hk w hsel h1 h2
      have hck:=run_checkKey (P:=P) hI hkd hkind ms.toArray.isEmpty 9998 hk w
      rw [h3 kv]
      cases r' with
      | none=>
       obtain ⟨zv,hz1,hz2⟩:=hI.run_zero w hz
       refine ⟨if ok then .tuple #[zv,.bool false] else zv,?_,?_⟩
       ·simp only [Sem.run_bind,hck,Result.andThen_ok,hnow,Sem.run_pure,hz1]
       ·cases ok
        ·simpa using hz2 ρ
        ·simp only [cond_true,if_true,VR];exact ⟨[zv,.bool false],rfl,VRs.cons_iff.2 ⟨hz2 ρ,VRs.cons_iff.2 ⟨by simp only [VR],by simp [VRs]⟩⟩⟩
      | some p=>
       obtain ⟨me,_,h4,h5⟩:=hnow
       refine ⟨if ok then .tuple #[me.val,.bool true] else me.val,?_,?_⟩
       ·simp only [Sem.run_bind,hck,Result.andThen_ok,h4,Sem.run_pure]
       ·cases ok
        ·simpa using h5
        ·simp only [cond_true,if_true,VR];exact ⟨[me.val,.bool true],rfl,VRs.cons_iff.2 ⟨h5,VRs.cons_iff.2 ⟨by simp only [VR],by simp [VRs]⟩⟩⟩
     rcases afind_sem hX h with ⟨h1,h2⟩ | ⟨i,v,h1,h2⟩
     ·exact ⟨_,h1,fun c ρ w mv kv hm hk hr=>fin c ρ w mv kv hm hk hr none h2⟩
     ·exact ⟨_,h1,fun c ρ w mv kv hm hk hr=>fin c ρ w mv kv hm hk hr (some (i,v)) h2⟩
    ·exact absurd h hX.fail
   ·exact absurd h hX.fail
  ·exact absurd h hX.fail
 ·exact absurd h hX.fail
end
end Go.Sx
end
section
namespace Go.Sx
open Go
section
variable {R:Type} {X:RI R} {sem:R→Prop} (hX:X.Ok sem) {I:Info} {P:Program} (hI:I.Ok P)
def Operand.isConst:Operand→Bool
 | .const _=>true
 | _=>false
def aeql (X:RI R) (I:Info) (t:TypeId) (cst neg:Bool) (a b:AV) (K:AV→R): R :=
 match (match a,b with
  | .nilIface,.nilIface=>cst
  | .agg _,.agg _=>I.eqg t
  | _,_=>true:Bool),aeq I 10000 t a b with
 | true,some r=>K (.bool (bif neg then !r else r))
 | _,_=>X.fail
def abin (X:RI R) (I:Info) (op:BinOp) (t:TypeId) (cst:Bool) (a b:AV) (K:AV→R): R :=
 match a,b with
 | .int k x,.int k' y=>
  match op with
  | .shl | .shr=>shiftOp X I.wr op k x y K
  | _=>if k=k' then intOp X I.wr op k x y K else X.fail
 | .str x,.str y=>strOp X op x y K
 | a,b=>
  match op with
  | .eql=>aeql X I t cst false a b K
  | .neq=>aeql X I t cst true a b K
  | _=>X.fail
theorem AV.notNum {ρ:Env} {a:AV} {v:Value} (h:VR ρ a v) (h1 : ∀ k n,a≠ .int k n) (h2 : ∀ s,a≠ .str s) (h3:a≠ .any): (∀ k n,v≠ .int k n)∧(∀ s,v≠ .string s)∧(∀ k n,v≠ .float k n)∧(∀ k n m,v≠ .complex k n m):=by
 cases a with
 | int k n=>exact absurd rfl (h1 k n)
 | str s=>exact absurd rfl (h2 s)
 | any=>exact absurd rfl h3
 | bool | nilPtr | nilSlice | nilFn | nilIface=>simp only [VR] at h;subst h;simp
 | ptr=>simp only [VR] at h;obtain ⟨_,_,_,rfl⟩:=h;simp
 | slice=>simp only [VR] at h;obtain ⟨_,_,_,_,_,rfl,_⟩:=h;simp
 | own=>simp only [VR] at h;rcases h with ⟨_,rfl⟩ | ⟨_,_,_,_,rfl,_⟩<;>simp
 | map l=>cases l<;>simp only [VR] at h<;>first | (subst h;simp;done) | (obtain ⟨_,_,_,rfl⟩:=h;simp)
 | fn=>simp only [VR] at h;obtain ⟨_,_,rfl,_⟩:=h;simp
 | yield=>simp only [VR] at h;obtain ⟨_,_,_,rfl⟩:=h;simp
 | iface=>simp only [VR] at h;obtain ⟨_,rfl,_⟩:=h;simp
 | agg=>simp only [VR] at h;obtain ⟨_,rfl,_⟩:=h;simp
 | tup=>simp only [VR] at h;obtain ⟨_,rfl,_⟩:=h;simp
 | fptr=>simp only [VR] at h;obtain ⟨_,_,_,rfl,_⟩:=h;simp
 | fslice=>simp only [VR] at h;rcases h with ⟨_,rfl⟩ | ⟨_,_,_,_,_,rfl,_⟩<;>simp
theorem run_equal_of {P:Program} {w:World} {t:TypeId} {u v:Value} {r:Bool} (h:(Op.equalIn 10000 t u v).run P w= .ok r w) (hu : ∀ k n,u≠ .int k n) (_ : ∀ k n,v≠ .int k n) (hu2 : ∀ s,u≠ .string s) (hu3 : ∀ k n,u≠ .float k n) (hu4 : ∀ k n m,u≠ .complex k n m):
  (binOp .eql t u v).run P w= .ok (.bool r) w∧(binOp .neq t u v).run P w= .ok (.bool (!r)) w:=by
 cases u<;>first
  | exact absurd rfl (hu _ _)
  | exact absurd rfl (hu2 _)
  | exact absurd rfl (hu3 _ _)
  | exact absurd rfl (hu4 _ _ _)
  | (constructor<;>simp [binOp,Op.equal,Op.maxDepth,h])
theorem aeq_not_any {I:Info} {d:Nat} {t:TypeId} {a b:AV} {r:Bool} (h:aeq I d t a b=some r): a≠ .any∧b≠ .any:=by
 cases d with
 | zero=>simp [aeq] at h
 | succ d=>
  constructor
  ·rintro rfl;unfold aeq at h;split at h<;>simp_all
  ·rintro rfl;unfold aeq at h;split at h<;>simp_all
theorem run_eqGuard {P:Program} (op:BinOp) (t:TypeId) (x y:Operand) (u v:Value) (w:World) (h1:u= .nilIface→v= .nilIface→(Operand.isConst x||Operand.isConst y)=true)
  (h2 : ∀ xs ys,u= .agg xs→v= .agg ys→P.eqGuardType P.depth t=false): (eqGuard op t x y u v).run P w= .ok () w:=by
 have fin : ∀ (op:BinOp),(op= .eql∨op= .neq)→(eqGuard op t x y u v).run P w= .ok () w:=by
  intro op hop
  rcases hop with rfl | rfl
  all_goals
   unfold eqGuard
   simp only [Bool.not_true,Bool.false_eq_true,if_false]
   split
   ·have hc:=h1 rfl rfl
    clear h1 h2
    revert hc
    cases x<;>cases y<;>simp [Operand.isConst]
   ·have:=h2 _ _ rfl rfl
    simp [this]
   ·rfl
 cases op<;>first | exact fin _ (.inl rfl) | exact fin _ (.inr rfl) | rfl
theorem aeq_shape {I:Info} {d:Nat} {t:TypeId} {a b:AV} {r:Bool} (h:aeq I d t a b=some r):
  (∀ k n,a= .int k n→ ∃ k' n',b= .int k' n')∧(∀ k n,b= .int k n→ ∃ k' n',a= .int k' n')∧(∀ s,a= .str s→ ∃ s',b= .str s'):=by
 cases d with
 | zero=>simp [aeq] at h
 | succ d=>
  refine ⟨?_,?_,?_⟩
  ·rintro k n rfl;unfold aeq at h;split at h<;>simp_all
  ·rintro k n rfl;unfold aeq at h;split at h<;>simp_all
  ·rintro s rfl;unfold aeq at h;split at h<;>simp_all
theorem aeql_some {R:Type} {X:RI R} {sem:R→Prop} (hX:X.Ok sem) {I:Info} {t:TypeId} {cst neg:Bool} {a b:AV} {K:AV→R} (h:sem (aeql X I t cst neg a b K)): ∃ r,aeq I 10000 t a b=some r:=by
 unfold aeql at h
 split at h
 ·rename_i r _ hr;exact ⟨r,hr⟩
 ·exact absurd h hX.fail
include hX hI in
theorem aeql_ok {t:TypeId} {cst neg:Bool} {a b:AV} {K:AV→R} (h:sem (aeql X I t cst neg a b K)) (h1 : ∀ k n,a≠ .int k n) (h2 : ∀ s,a≠ .str s) (h3 : ∀ k n,b≠ .int k n):
  ∃ r:Bool,sem (K (.bool (bif neg then !r else r)))∧ ∀ ρ w u v (x y:Operand) (op:BinOp),(cst=true→(Operand.isConst x||Operand.isConst y)=true)→VR ρ a u→VR ρ b v→
   (eqGuard op t x y u v).run P w= .ok () w∧(binOp .eql t u v).run P w= .ok (.bool r) w∧(binOp .neq t u v).run P w= .ok (.bool (!r)) w:=by
 unfold aeql at h
 split at h
 ·rename_i r hg hr
  refine ⟨r,h,fun ρ w u v x y op hc hu hv=>?_⟩
  obtain ⟨na,nb⟩:=aeq_not_any hr
  have hu':=AV.notNum hu h1 h2 na
  have he:=aeq_ok hI 10000 t a b r hr ρ u v w hu hv
  have hvi : ∀ k n,v≠ .int k n:=by
   intro k n e
   subst e
   revert hv
   cases b with
   | int k' n'=>exact absurd rfl (h3 _ _)
   | any=>exact absurd rfl nb
   | map l=>cases l<;>simp [VR]
   | _=>simp [VR]
  refine ⟨run_eqGuard op t x y u v w (fun e1 e2=>?_) (fun xs ys e1 e2=>?_),run_equal_of he hu'.1 hvi hu'.2.1 hu'.2.2.1 hu'.2.2.2⟩
  ·subst e1 e2
   have ha:a= .nilIface:=by
    revert hu
    cases a with
    | nilIface=>intro _;rfl
    | any=>exact absurd rfl na
    | map l=>cases l<;>simp [VR]
    | _=>simp [VR]
   have hb:b= .nilIface:=by
    revert hv
    cases b with
    | nilIface=>intro _;rfl
    | any=>exact absurd rfl nb
    | map l=>cases l<;>simp [VR]
    | _=>simp [VR]
   subst ha hb
   exact hc hg
  ·subst e1 e2
   have ha : ∃ as,a= .agg as:=by
    revert hu
    cases a with
    | agg as=>intro _;exact ⟨as,rfl⟩
    | any=>exact absurd rfl na
    | map l=>cases l<;>simp [VR]
    | _=>simp [VR]
   have hb : ∃ bs,b= .agg bs:=by
    revert hv
    cases b with
    | agg bs=>intro _;exact ⟨bs,rfl⟩
    | any=>exact absurd rfl nb
    | map l=>cases l<;>simp [VR]
    | _=>simp [VR]
   obtain ⟨as,rfl⟩:=ha
   obtain ⟨bs,rfl⟩:=hb
   exact hI.eqg t hg
 ·exact absurd h hX.fail
include hX hI in
theorem abin_ok {op:BinOp} {t:TypeId} {cst:Bool} {a b:AV} {K:AV→R} (h:sem (abin X I op t cst a b K)):
  ∃ z,sem (K z)∧ ∀ ρ w u v (x y:Operand),(cst=true→(Operand.isConst x||Operand.isConst y)=true)→VR ρ a u→VR ρ b v→
   ∃ r,((do eqGuard op t x y u v;binOp op t u v:Sem Value).run P w= .ok r w)∧VR ρ z r:=by
 unfold abin at h
 split at h
 ·rename_i k x k' y
  have fin : ∀ {v':Value} {z:AV},(∀ ρ,VR ρ z v')→(∀ w,(binOp op t (.int k x) (.int k' y)).run P w= .ok v' w)→ ∀ ρ w u v (p q:Operand),(cst=true→(Operand.isConst p||Operand.isConst q)=true)→VR ρ (.int k x) u→VR ρ (.int k' y) v→
   ∃ r,((do eqGuard op t p q u v;binOp op t u v:Sem Value).run P w= .ok r w)∧VR ρ z r:=by
   intro v' z h1 h2 ρ w u v p q _ hu hv
   simp only [VR] at hu hv
   subst hu hv
   have hg:=run_eqGuard (P:=P) op t p q (.int k x) (.int k' y) w (fun e=>by cases e) (fun _ _ e=>by cases e)
   exact ⟨v',by simp only [Sem.run_bind,hg,Result.andThen_ok,h2 w],h1 ρ⟩
  split at h
  ·obtain ⟨v',z,h1,h2,h3⟩:=shiftOp_ok hX P h t
   exact ⟨z,h1,fin h2 (fun w=>h3 w)⟩
  ·obtain ⟨v',z,h1,h2,h3⟩:=shiftOp_ok hX P h t
   exact ⟨z,h1,fin h2 (fun w=>h3 w)⟩
  ·split at h
   ·rename_i hk
    subst hk
    obtain ⟨v',z,h1,h2,h3⟩:=intOp_ok hX P h t
    exact ⟨z,h1,fin h2 (fun w=>h3 w)⟩
   ·exact absurd h hX.fail
 ·rename_i x y
  obtain ⟨v',z,h1,h2,h3⟩:=strOp_ok hX P h t
  refine ⟨z,h1,fun ρ w u v p q _ hu hv=>?_⟩
  simp only [VR] at hu hv
  subst hu hv
  have hg:=run_eqGuard (P:=P) op t p q (.string ⟨x.toArray⟩) (.string ⟨y.toArray⟩) w (fun e=>by cases e) (fun _ _ e=>by cases e)
  exact ⟨v',by simp only [Sem.run_bind,hg,Result.andThen_ok,h3 w],h2 ρ⟩
 ·rename_i n1 n2
  have shape : ∀ {neg:Bool},sem (aeql X I t cst neg a b K)→(∀ k n,a≠ .int k n)∧(∀ s,a≠ .str s)∧(∀ k n,b≠ .int k n):=by
   intro neg hh
   obtain ⟨r,hr⟩:=aeql_some hX hh
   obtain ⟨s1,s2,s3⟩:=aeq_shape hr
   refine ⟨fun k n e=>?_,fun s e=>?_,fun k n e=>?_⟩
   ·obtain ⟨k',n',e'⟩:=s1 k n e;exact n1 _ _ _ _ e e'
   ·obtain ⟨s',e'⟩:=s3 s e;exact n2 _ _ e e'
   ·obtain ⟨k',n',e'⟩:=s2 k n e;exact n1 _ _ _ _ e' e
  split at h
  ·obtain ⟨h1,h2,h3⟩:=shape h
   obtain ⟨r,h4,h5⟩:=aeql_ok hX hI h h1 h2 h3
   refine ⟨_,h4,fun ρ w u v p q hc hu hv=>?_⟩
   obtain ⟨e1,e2,e3⟩:=h5 ρ w u v p q .eql hc hu hv
   exact ⟨.bool r,by simp only [Sem.run_bind,e1,Result.andThen_ok,e2],by simp only [VR,cond_false]⟩
  ·obtain ⟨h1,h2,h3⟩:=shape h
   obtain ⟨r,h4,h5⟩:=aeql_ok hX hI h h1 h2 h3
   refine ⟨_,h4,fun ρ w u v p q hc hu hv=>?_⟩
   obtain ⟨e1,e2,e3⟩:=h5 ρ w u v p q .neq hc hu hv
   exact ⟨.bool (!r),by simp only [Sem.run_bind,e1,Result.andThen_ok,e3],by simp only [VR,cond_true]⟩
  ·exact absurd h hX.fail
end
end Go.Sx
end
section
namespace Go.Sx
open Go
def GivesN (P:Program) (s:Sem Next) (c:Ctx) (ρ:Env) (w:World) (a:AV) (H':AH): Prop :=
 ∃ v' w' ρ',s.run P w= .ok (.value v') w'∧Ext ρ ρ'∧Rel c ρ' H' w'∧VR ρ' a v'∧Pres w w'
theorem Gives.next {P:Program} {s:Sem Value} {c:Ctx} {ρ:Env} {w:World} {a:AV} {H':AH} (h:Gives P s c ρ w a H'): GivesN P (do pure (.value (←s))) c ρ w a H':=by
 obtain ⟨v',w',ρ',h1,h2⟩:=h
 exact ⟨v',w',ρ',by simp [h1],h2⟩
theorem VRs.of_map {ρ:Env} {ev:Operand→AV} {e:Operand→Value} (h : ∀ x,VR ρ (ev x) (e x)): ∀ xs:List Operand,VRs ρ (xs.map ev) (xs.map e)
 | []=>by simp [VRs]
 | x::xs=>VRs.cons_iff.2 ⟨h x,VRs.of_map h xs⟩
section
variable {R:Type} (X:RI R) (I:Info)
def aminmax (mx:Bool): List AV→Option AV
 | .int k x::rest=>rest.foldlM (fun a b=>match a,b with
   | .int k x,.int _ y=>some (.int k (bif mx then (if y>x then y else x) else (if y<x then y else x)))
   | _,_=>none) (.int k x)
 | _=>none
def splitT:TypeId:=99
def asplit (X:RI R) (x:Int) (K:Int→R): Nat→Nat→R
 | 0,_=>X.fail
 | n+1,i=>X.cond (decide (x=Int.ofNat i)) (fun _=>K (Int.ofNat i)) (fun _=>asplit X x K n (i+1))
def aindexSplit (X:RI R) (I:Info) (t:TypeId) (x i:AV) (K:AV→R): R :=
 match Nat.beq t splitT,x,i with
 | true,.fslice len _ _,.int k j=>asplit X j (fun j=>aindexAddr X I t x (.int k j) K) len 0
 | _,_,_=>aindexAddr X I t x i K
def apop (o:Oper) (ev:Operand→AV) (H:AH) (K:AV→AH→R): R :=
 match o.op with
 | .move x | .assign x=>K (ev x) H
 | .pick c a b=>match ev c with
  | .bool p=>match ev a,ev b with
   | .bool x,.bool y=>K (.bool (bif p then x else y)) H
   | x,y=>X.cond p (fun _=>K x H) (fun _=>K y H)
  | _=>X.fail
 | .alloc t=>match (I.zero t).bind AV.cells? with
  | some cs=>K (.ptr H.n 0 0 0) (H.new (.cells cs (.ty t)))
  | none=>X.fail
 | .box t x=>match (ev x).cells? with
  | some cs=>K (.ptr H.n 0 0 0) (H.new (.cells cs (.ty t)))
  | none=>X.fail
 | .build t parts=>match abuild I t (parts.toList.map fun p=>(p.1,ev p.2)) with
  | some a=>K a H
  | none=>X.fail
 | .buildSlice t len parts=>abuildSlice X I t len (parts.toList.map fun p=>(p.1,ev p.2)) H K
 | .load t a=>aload X I t H (ev a) (fun v=>K v H)
 | .nilCheck x=>match ev x with
  | .ptr l k e j=>K (.ptr l k e j) H
  | .fptr cs j=>K (.fptr cs j) H
  | .fn f a b=>K (.fn f a b) H
  | .yield l=>K (.yield l) H
  | _=>X.fail
 | .binOp op t x y _=>abin X I op t (Operand.isConst x||Operand.isConst y) (ev x) (ev y) (fun v=>K v H)
 | .unOp op _ x=>aunOp X I.wr op (ev x) (fun v=>K v H)
 | .convert s d x=>aconvert X I s d (ev x) H K
 | .makeInterface t x=>match I.und t with
  | some (.interface _)=>X.fail
  | some _=>K (.iface t (ev x)) H
  | none=>X.fail
 | .makeFunc (.func f) first cap=>K (.fn f (first.toList.map ev) (cap.toList.map ev)) H
 | .makeMap _ none=>K (.map (some H.n)) (H.new (.map []))
 | .makeSlice t l c=>amakeSlice X I t (ev l) (ev c) H K
 | .slice t x lo hi mx=>aslice X I t (ev x) (lo.map ev) (hi.map ev) (mx.map ev) H (fun v=>K v H)
 | .fieldAddr t x f=>afieldAddr X I t (ev x) f (fun v=>K v H)
 | .field t x f=>afield X I t (ev x) f (fun v=>K v H)
 | .indexAddr t x i=>aindexSplit X I t (ev x) (ev i) (fun v=>K v H)
 | .index t x i=>aindex X I t (ev x) (ev i) (fun v=>K v H)
 | .lookup t x i ok=>alookup X I t (ev x) (ev i) ok H (fun v=>K v H)
 | .extract x i=>match ev x with
  | .tup vs=>match vs[i]? with
   | some a=>K a H
   | none=>X.fail
  | _=>X.fail
 | .call {callee:=.builtin .len,args,argTypes}=>match args.toList,argTypes.toList with
  | [x],[t]=>alen X I t (ev x) H (fun v=>K v H)
  | _,_=>X.fail
 | .call {callee:=.builtin .min,args,..}=>match aminmax false (args.toList.map ev) with
  | some a=>K a H
  | none=>X.fail
 | .call {callee:=.builtin .max,args,..}=>match aminmax true (args.toList.map ev) with
  | some a=>K a H
  | none=>X.fail
 | _=>X.fail
end
section
variable {R:Type} {X:RI R} {sem:R→Prop} (hX:X.Ok sem) {I:Info} {P:Program} (hI:I.Ok P)
theorem yields_next {P:Program} {H:AH} {s:Value→Sem Value} {x a:AV} (h:Yields P H s x a) {c:Ctx} {ρ:Env} {w:World} {v:Value} (hv:VR ρ x v) (hr:Rel c ρ H w): GivesN P (do pure (.value (←s v))) c ρ w a H:=by
 obtain ⟨u,h1,h2⟩:=h c ρ w v hv hr
 exact (Gives.same h1 hr h2).next
theorem yields2_next {P:Program} {H:AH} {s:Value→Value→Sem Value} {x y a:AV} (h:Yields2 P H s x y a) {c:Ctx} {ρ:Env} {w:World} {v u:Value} (hv:VR ρ x v) (hu:VR ρ y u) (hr:Rel c ρ H w):
  GivesN P (do pure (.value (←s v u))) c ρ w a H:=by
 obtain ⟨z,h1,h2⟩:=h c ρ w v u hv hu hr
 exact (Gives.same h1 hr h2).next
theorem bound_map {ρ:Env} {ev:Operand→AV} {e:Operand→Value} (h : ∀ x,VR ρ (ev x) (e x)) (x:Option Operand): BoundR (x.map ev) (x.map e):=by
 cases x with
 | none=>trivial
 | some x=>
  intro k n hn
  have:=h x
  rw [hn] at this
  simpa only [VR] using this
theorem minmax_ok {P : Program} {mx : Bool} {ρ : Env} (w : World) : ∀ {as : List AV} {vs : List Value} {k : IntKind} {x : Int} {a : AV}, as.foldlM (fun a b => match a, b with
      | .int k x, .int _ y => some (.int k (bif mx then (if y > x then y else x) else (if y < x then y else x)))
      | _, _ => none) (AV.int k x) = some a → VRs ρ as vs → ∃ v, ((vs.foldlM (if mx then Builtin.max2 else Builtin.min2) (Value.int k x) : Sem Value).run P w = .ok v w) ∧ VR ρ a v
  | [], vs, k, x, a, h, hv => by
    simp only [VRs] at hv; subst hv
    simp only [List.foldlM_nil, Option.pure_def, Option.some.injEq] at h
    subst h
    exact ⟨_, by simp; rfl, by simp only [VR]⟩
  | b :: as, vs, k, x, a, h, hv => by
    simp only [VRs] at hv
    obtain ⟨u, us, rfl, h1, h2⟩ := hv
    simp only [List.foldlM_cons, Option.bind_eq_bind, Option.bind_eq_some_iff] at h
    obtain ⟨c, h3, h4⟩ := h
    cases b with
    | int k' y =>
      simp only [Option.some.injEq] at h3
      subst h3
      simp only [VR] at h1
      subst h1
      obtain ⟨v, h5, h6⟩ := minmax_ok w h4 h2
      refine ⟨v, ?_, h6⟩
      cases mx <;> simp only [List.foldlM_cons, Sem.run_bind, if_true, Bool.false_eq_true, if_false, Builtin.min2, Builtin.max2, Sem.run_pure, Result.andThen_ok, cond_true, cond_false] at h5 ⊢ <;> exact h5
    | _ => simp at h3
include hX in
theorem asplit_ok {x:Int} {K:Int→R}: ∀ {n i:Nat},sem (asplit X x K n i)→sem (K x)
 | 0,i,h=>absurd h hX.fail
 | n+1,i,h=>by
  have hc:=hX.cond _ _ _ h
  by_cases e:x=Int.ofNat i
  ·rw [if_pos (by simpa using e)] at hc
   rw [e];exact hc
  ·rw [if_neg (by simpa using e)] at hc
   exact asplit_ok hc
include hX in
theorem aindexSplit_ok {t:TypeId} {x i:AV} {K:AV→R} (h:sem (aindexSplit X I t x i K)): sem (aindexAddr X I t x i K):=by
 unfold aindexSplit at h
 split at h
 ·exact asplit_ok hX h
 ·exact h
include hX hI in
theorem apop_ok {o:Oper} {ev:Operand→AV} {H:AH} {K:AV→AH→R} (h:sem (apop X I o ev H K)):
  ∃ a H',sem (K a H')∧ ∀ c ρ w (e:Operand→Value),(∀ x,VR ρ (ev x) (e x))→Rel c ρ H w→GivesN P (execOp e o) c ρ w a H':=by
 unfold apop at h
 split at h
 case h_1 x ho=>exact ⟨_,_,h,fun c ρ w e he hr=>⟨e x,w,ρ,by simp [execOp,ho],Ext.refl _,hr,he x,Pres.refl _⟩⟩
 case h_2 x ho=>exact ⟨_,_,h,fun c ρ w e he hr=>⟨e x,w,ρ,by simp [execOp,ho],Ext.refl _,hr,he x,Pres.refl _⟩⟩
 case h_3 cd a b ho=>
  split at h
  ·rename_i p hp
   have hc : ∀ c ρ w (e:Operand→Value),(∀ x,VR ρ (ev x) (e x))→Rel c ρ H w→(execOp e o).run P w= .ok (.value (if p then e a else e b)) w:=by
    intro c ρ w e he hr
    have:=he cd
    rw [hp] at this
    simp only [VR] at this
    simp [execOp,ho,this,asBool]
   split at h
   ·rename_i x y hx hy
    refine ⟨_,_,h,fun c ρ w e he hr=>⟨_,w,ρ,hc c ρ w e he hr,Ext.refl _,hr,?_,Pres.refl _⟩⟩
    cases p
    ·have:=he b;rw [hy] at this;simpa using this
    ·have:=he a;rw [hx] at this;simpa using this
   ·have hcc:=hX.cond _ _ _ h
    cases p with
    | true=>exact ⟨_,_,by simpa using hcc,fun c ρ w e he hr=>⟨_,w,ρ,hc c ρ w e he hr,Ext.refl _,hr,by simpa using he a,Pres.refl _⟩⟩
    | false=>exact ⟨_,_,by simpa using hcc,fun c ρ w e he hr=>⟨_,w,ρ,hc c ρ w e he hr,Ext.refl _,hr,by simpa using he b,Pres.refl _⟩⟩
  ·exact absurd h hX.fail
 case h_4 t ho=>
  split at h
  ·rename_i cs hcs
   refine ⟨_,_,h,fun c ρ w e he hr=>?_⟩
   simp only [Option.bind_eq_some_iff] at hcs
   obtain ⟨z,hz1,hz2⟩:=hcs
   obtain ⟨zv,h1,h2⟩:=hI.run_zero w hz1
   have h3:=VR.cells (h2 ρ) hz2
   have:GivesN P (do pure (.value (←Instr.alloc t true (.tuple #[])))) c ρ w (.ptr H.n 0 0 0) (H.new (.cells cs (.ty t))):=by
    refine (Gives.row (mk:=fun a=> .pointer (some a)) (el:=t) hr h3 (AV.cells_ones hz2) ?_ fun ρ' hρ=>by simp only [VR];exact ⟨_,_,hρ,rfl⟩).next
    simp [Instr.alloc,h1,newVar,newRow]
   simpa [execOp,ho] using this
  ·exact absurd h hX.fail
 case h_5 t x ho=>
  split at h
  ·rename_i cs hcs
   refine ⟨_,_,h,fun c ρ w e he hr=>?_⟩
   have h3:=VR.cells (he x) hcs
   have:GivesN P (do pure (.value (←Instr.box t (e x)))) c ρ w (.ptr H.n 0 0 0) (H.new (.cells cs (.ty t))):=by
    refine (Gives.row (mk:=fun a=> .pointer (some a)) (el:=t) hr h3 (AV.cells_ones hcs) ?_ fun ρ' hρ=>by simp only [VR];exact ⟨_,_,hρ,rfl⟩).next
    simp [Instr.box,newVar,newRow]
   simpa [execOp,ho] using this
  ·exact absurd h hX.fail
 case h_6 t parts ho=>
  split at h
  ·rename_i a ha
   refine ⟨_,_,h,fun c ρ w e he hr=>?_⟩
   obtain ⟨v,h1,h2⟩:=abuild_ok hI ha (PR.of_map he parts.toList) w
   have e1:(parts.map fun x=>(x.1,e x.2))=(parts.toList.map fun p=>(p.1,e p.2)).toArray:=by apply Array.ext';simp
   have:GivesN P (do pure (.value (←Instr.build t (parts.map fun x=>(x.1,e x.2))))) c ρ w a H:=by rw [e1];exact (Gives.same h1 hr h2).next
   simpa [execOp,ho] using this
  ·exact absurd h hX.fail
 case h_7 t len parts ho=>
  obtain ⟨a,H',h1,h2⟩:=abuildSlice_ok hX hI h
  refine ⟨a,H',h1,fun c ρ w e he hr=>?_⟩
  have e1:(parts.map fun x=>(x.1,e x.2))=(parts.toList.map fun p=>(p.1,e p.2)).toArray:=by apply Array.ext';simp
  have:GivesN P (do pure (.value (←Instr.buildSlice t len (parts.map fun x=>(x.1,e x.2))))) c ρ w a H':=by rw [e1];exact (h2 c ρ w _ (PR.of_map he parts.toList) hr).next
  simpa [execOp,ho] using this
 case h_8 t a ho=>
  obtain ⟨z,h1,h2⟩:=aload_ok hX hI h
  refine ⟨z,H,h1,fun c ρ w e he hr=>?_⟩
  obtain ⟨v,h3,h4⟩:=h2 c ρ w (e a) (he a) hr
  simpa [execOp,ho] using (Gives.same h3 hr h4).next
 case h_9 x ho=>
  have nc : ∀ c ρ w (e:Operand→Value) a,ev x=a→(∀ x,VR ρ (ev x) (e x))→Rel c ρ H w→((∃ b,e x= .pointer (some b))∨(∃ f us vs,e x= .func (.func f) us vs)∨ ∃ l,e x= .func (.yield l) #[] #[])→GivesN P (execOp e o) c ρ w a H:=by
   intro c ρ w e a ha he hr hv
   refine ⟨e x,w,ρ,?_,Ext.refl _,hr,ha▸he x,Pres.refl _⟩
   rcases hv with ⟨b,hb⟩ | ⟨f,us,vs,hb⟩ | ⟨l,hb⟩<;>simp [execOp,ho,hb]
  split at h
  ·rename_i l k e j hx
   refine ⟨_,_,h,fun c ρ w e he hr=>nc c ρ w e _ hx he hr (.inl ?_)⟩
   have:=he x;rw [hx] at this;simp only [VR] at this
   obtain ⟨b,N,_,h1⟩:=this;exact ⟨_,h1⟩
  ·rename_i cs j hx
   refine ⟨_,_,h,fun c ρ w e he hr=>nc c ρ w e _ hx he hr (.inl ?_)⟩
   have:=he x;rw [hx] at this;simp only [VR] at this
   obtain ⟨b,q,vss,h1,_⟩:=this;exact ⟨_,h1⟩
  ·rename_i f as bs hx
   refine ⟨_,_,h,fun c ρ w e he hr=>nc c ρ w e _ hx he hr (.inr (.inl ?_))⟩
   have:=he x;rw [hx] at this;simp only [VR] at this
   obtain ⟨us,vs,h1,_⟩:=this;exact ⟨_,_,_,h1⟩
  ·rename_i l hx
   refine ⟨_,_,h,fun c ρ w e he hr=>nc c ρ w e _ hx he hr (.inr (.inr ?_))⟩
   have:=he x;rw [hx] at this;simp only [VR] at this
   obtain ⟨b,N,_,h1⟩:=this;exact ⟨_,h1⟩
  ·exact absurd h hX.fail
 case h_10 op t x y yt ho=>
  obtain ⟨z,h1,h2⟩:=abin_ok hX hI h
  refine ⟨z,H,h1,fun c ρ w e he hr=>?_⟩
  obtain ⟨r,h3,h4⟩:=h2 ρ w (e x) (e y) x y id (he x) (he y)
  have:=(Gives.same h3 hr h4).next
  simpa [execOp,ho] using this
 case h_11 op t x ho=>
  obtain ⟨z,h1,h2⟩:=aunOp_ok (P:=P) hX H h
  exact ⟨z,H,h1,fun c ρ w e he hr=>by simpa [execOp,ho] using yields_next h2 (he x) hr⟩
 case h_12 s d x ho=>
  obtain ⟨z,H',h1,h2⟩:=aconvert_ok hX hI h
  exact ⟨z,H',h1,fun c ρ w e he hr=>by simpa [execOp,ho] using (h2 c ρ w (e x) (he x) hr).next⟩
 case h_13 t x ho=>
  split at h
  ·exact absurd h hX.fail
  ·rename_i d hd hne
   refine ⟨_,_,h,fun c ρ w e he hr=>?_⟩
   have:GivesN P (do pure (.value (←Instr.makeInterface t (e x)))) c ρ w (.iface t (ev x)) H:=by
    refine (Gives.same (v:=.iface t (e x)) ?_ hr (by simp only [VR];exact ⟨_,rfl,he x⟩)).next
    refine run_makeInterface w t (e x) ?_
    have:=hI.und t d hne
    unfold Program.concrete
    rw [this]
    cases d<;>first | rfl | (exact absurd rfl (hd _))
   simpa [execOp,ho] using this
  ·exact absurd h hX.fail
 case h_14 f first cap ho=>
  refine ⟨_,_,h,fun c ρ w e he hr=>?_⟩
  have:GivesN P (do pure (.value (←Instr.makeFunc (.func f) (first.map e) (cap.map e)))) c ρ w (.fn f (first.toList.map ev) (cap.toList.map ev)) H:=by
   refine (Gives.same (v:=.func (.func f) (first.map e) (cap.map e)) (by simp [Instr.makeFunc]) hr ?_).next
   simp only [VR]
   exact ⟨first.toList.map e,cap.toList.map e,by congr 1<;>(apply Array.ext';simp),VRs.of_map he _,VRs.of_map he _⟩
  simpa [execOp,ho] using this
 case h_15 t ho=>
  refine ⟨_,_,h,fun c ρ w e he hr=>?_⟩
  obtain ⟨hx,hr2⟩:=hr.new (.map #[] 0) 0 (.map []) fun w' hw'=>⟨_,_,[],0,rfl,by simpa using hw',MapRel.mk rfl (by simp [VRs]) (by simp [VRs]),fun _=>rfl⟩
  refine ⟨.map (some w.heap.size),_,_,by simp [execOp,ho,Instr.makeMap],hx,hr2,by simp only [VR];exact ⟨_,_,Env.put_same _ _ _,rfl⟩,Pres.push _ _⟩
 case h_16 t l cc ho=>
  obtain ⟨z,H',h1,h2⟩:=amakeSlice_ok hX hI h
  exact ⟨z,H',h1,fun c ρ w e he hr=>by simpa [execOp,ho] using (h2 c ρ w (e l) (e cc) (he l) (he cc) hr).next⟩
 case h_17 t x lo hi mx ho=>
  obtain ⟨z,h1,h2⟩:=aslice_ok hX hI H h
  refine ⟨z,H,h1,fun c ρ w e he hr=>?_⟩
  obtain ⟨u,h3,h4⟩:=h2 c ρ w (e x) (lo.map e) (hi.map e) (mx.map e) (he x) (bound_map he lo) (bound_map he hi) (bound_map he mx) hr
  simpa [execOp,ho] using (Gives.same h3 hr h4).next
 case h_18 t x f ho=>
  obtain ⟨z,h1,h2⟩:=afieldAddr_ok hX hI H h
  exact ⟨z,H,h1,fun c ρ w e he hr=>by simpa [execOp,ho] using yields_next h2 (he x) hr⟩
 case h_19 t x f ho=>
  obtain ⟨z,h1,h2⟩:=afield_ok hX hI H h
  exact ⟨z,H,h1,fun c ρ w e he hr=>by simpa [execOp,ho] using yields_next h2 (he x) hr⟩
 case h_20 t x i ho=>
  obtain ⟨z,h1,h2⟩:=aindexAddr_ok hX hI H (aindexSplit_ok hX h)
  exact ⟨z,H,h1,fun c ρ w e he hr=>by simpa [execOp,ho] using yields2_next h2 (he x) (he i) hr⟩
 case h_21 t x i ho=>
  obtain ⟨z,h1,h2⟩:=aindex_ok hX hI H h
  exact ⟨z,H,h1,fun c ρ w e he hr=>by simpa [execOp,ho] using yields2_next h2 (he x) (he i) hr⟩
 case h_22 t x i ok ho=>
  obtain ⟨z,h1,h2⟩:=alookup_ok hX hI h
  exact ⟨z,H,h1,fun c ρ w e he hr=>by simpa [execOp,ho] using yields2_next h2 (he x) (he i) hr⟩
 case h_23 x i ho=>
  split at h
  ·rename_i vs hx
   split at h
   ·rename_i a ha
    refine ⟨_,_,h,fun c ρ w e he hr=>?_⟩
    have h1:=he x
    rw [hx] at h1
    simp only [VR] at h1
    obtain ⟨us,h2,h3⟩:=h1
    obtain ⟨u,h4,h5⟩:=h3.get i ha
    have:GivesN P (do pure (.value (←Instr.extract (e x) i))) c ρ w a H:=(Gives.same (v:=u) (by simp [Instr.extract,h2,h4]) hr h5).next
    simpa [execOp,ho] using this
   ·exact absurd h hX.fail
  ·exact absurd h hX.fail
 case h_24 args ts ho=>
  split at h
  ·rename_i x t hx ht
   have ha:args= #[x]:=by apply Array.ext';simpa using hx
   have hts:ts= #[t]:=by apply Array.ext';simpa using ht
   subst ha hts
   obtain ⟨z,h1,h2⟩:=alen_ok hX hI h #[t] rfl o.type
   refine ⟨z,H,h1,fun c ρ w e he hr=>?_⟩
   have:=yields_next h2 (he x) hr
   simpa [execOp,ho,resolve,invoke,builtin] using this
  ·exact absurd h hX.fail
 case h_25 args ts ho=>
  split at h
  ·rename_i a ha
   refine ⟨_,_,h,fun c ρ w e he hr=>?_⟩
   have hm : ∃ v,(Builtin.min_ ts o.type (args.map e)).run P w= .ok v w∧VR ρ a v:=by
    have hl:(args.map e).toList=args.toList.map e:=by simp
    have hvs:=VRs.of_map he args.toList
    unfold Builtin.min_
    rw [hl]
    generalize args.toList.map ev=as at ha hvs
    generalize args.toList.map e=vs at hvs
    unfold aminmax at ha
    split at ha
    ·rename_i k x rest
     simp only [VRs] at hvs
     obtain ⟨u,us,rfl,h1,h2⟩:=hvs
     simp only [VR] at h1
     subst h1
     simpa using minmax_ok (mx:=false) w ha h2
    ·cases ha
   obtain ⟨v,h1,h2⟩:=hm
   have:GivesN P (do pure (.value (←Builtin.min_ ts o.type (args.map e)))) c ρ w a H:=(Gives.same h1 hr h2).next
   simpa [execOp,ho,resolve,invoke,builtin] using this
  ·exact absurd h hX.fail
 case h_26 args ts ho=>
  split at h
  ·rename_i a ha
   refine ⟨_,_,h,fun c ρ w e he hr=>?_⟩
   have hm : ∃ v,(Builtin.max_ ts o.type (args.map e)).run P w= .ok v w∧VR ρ a v:=by
    have hl:(args.map e).toList=args.toList.map e:=by simp
    have hvs:=VRs.of_map he args.toList
    unfold Builtin.max_
    rw [hl]
    generalize args.toList.map ev=as at ha hvs
    generalize args.toList.map e=vs at hvs
    unfold aminmax at ha
    split at ha
    ·rename_i k x rest
     simp only [VRs] at hvs
     obtain ⟨u,us,rfl,h1,h2⟩:=hvs
     simp only [VR] at h1
     subst h1
     simpa using minmax_ok (mx:=true) w ha h2
    ·cases ha
   obtain ⟨v,h1,h2⟩:=hm
   have:GivesN P (do pure (.value (←Builtin.max_ ts o.type (args.map e)))) c ρ w a H:=(Gives.same h1 hr h2).next
   simpa [execOp,ho,resolve,invoke,builtin] using this
  ·exact absurd h hX.fail
 case h_27=>exact absurd h hX.fail
end
end Go.Sx
end
