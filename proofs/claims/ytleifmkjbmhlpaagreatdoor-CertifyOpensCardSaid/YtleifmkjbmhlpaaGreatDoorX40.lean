/- CertifyOpens is proved, part 40. -/
import Derived.Test.YtleifmkjbmhlpaaGreatDoorRows
import Derived.LaidSub
import Derived.Lib.LaidTab
import Derived.Test.YtleifmkjbmhlpaaGreatDoorX33
import Derived.Test.YtleifmkjbmhlpaaGreatDoorX39
import Derived.Test.YtleifmkjbmhlpaaGreatDoorX38
set_option linter.unusedVariables false
set_option linter.unusedSimpArgs false
set_option linter.unusedSectionVars false
section
set_option maxRecDepth 1000000
namespace Go.Sx
open Go Go.Deep Go.Proofs
open Go.Proofs.YtleifmkjbmhlpaaGreatDoor (Rows.certifySmallRow)
theorem laidVars_mem {P:Program} {W:World} {n:String} {d:DataW Unit}: ∀ {l:List (String×DataW Unit)} {ps:List MemPlace},DataW.LaidVars P W l ps→(n,d)∈l→
  ∃ g t cs fuel p,P.globalNamed n=some g∧(P.globals[g]?).map (·.type)=some t∧W.var? P n=some cs∧DataW.trod (fun _=>()) P W 0 (fun _=>true) false fuel t cs.toList=some (d,p)
 | [],_,_,h=>by cases h
 | (n',d')::l,_,⟨g,t,cs,fuel,p,q,h1,h2,h3,h4,h5,_⟩,h=>by
  rcases List.mem_cons.1 h with e | h
  ·cases e;exact ⟨g,t,cs,fuel,p,h1,h2,h3,h4⟩
  ·exact laidVars_mem h5 h
theorem data_of {P:Program} {W:World} {l:List (String×DataW Unit)} (hL:laidMetH P l W) {n:String} {d:DataW Unit} (hm:(n,d)∈l) (hd:d.handleName?.isNone=true):
  ∃ g t cs fuel p,P.globalNamed n=some g∧(P.globals[g]?).map (·.type)=some t∧W.var? P n=some cs∧DataW.trod (fun _=>()) P W 0 (fun _=>true) false fuel t cs.toList=some (d,p):=by
 obtain ⟨⟨ps,h,_⟩,_⟩:=laidMetH_iff.1 hL
 exact laidVars_mem h (List.mem_filter.2 ⟨hm,hd⟩)
theorem heap_of {P:Program} {W:World} {n:String} {g:Nat} {cs:Array Value} (hg:P.globalNamed n=some g) (h:W.var? P n=some cs): ∃ el fr,W.heap[g]? =some (.cells cs el fr):=by
 simp only [World.var?,hg,Option.bind_some] at h
 split at h
 ·rename_i c el fr hb
  cases h
  exact ⟨el,fr,hb⟩
 ·cases h
theorem one_of {cs:Array Value} {v:Value} (h:cs.toList=[v]): cs= #[v]:=by
 apply Array.ext';exact h
theorem gOps:PP.globalNamed "latecomer/query.operators" =some 0:=by kernel_rfl
theorem gZero:PP.globalNamed "latecomer/answer.zero" =some 1:=by kernel_rfl
theorem gRound:PP.globalNamed "latecomer/digest.round" =some 2:=by kernel_rfl
theorem gAggs:PP.globalNamed "latecomer/answer.aggregates" =some 3:=by kernel_rfl
theorem tOps:(PP.globals[0]?).map (·.type)=some 99:=by kernel_rfl
theorem tZero:(PP.globals[1]?).map (·.type)=some 32:=by kernel_rfl
theorem tRound:(PP.globals[2]?).map (·.type)=some 236:=by kernel_rfl
theorem tAggs:(PP.globals[3]?).map (·.type)=some 264:=by kernel_rfl
theorem c1:PP.cellsOf 3=1∧PP.cellsOf 9=1∧PP.cellsOf 96=1∧PP.cellsOf 218=1∧PP.cellsOf 263=1∧PP.cellsOf 159=1:=⟨by kernel_rfl,by kernel_rfl,by kernel_rfl,by kernel_rfl,by kernel_rfl,by kernel_rfl⟩
theorem c2:PP.cellsOf 98=2∧PP.cellsOf 32=2∧PP.cellsOf 236=64∧PP.cellsOf 81=4∧PP.cellsOf 72=3∧PP.cellsOf 25=4∧PP.cellsOf 23=1:=⟨by kernel_rfl,by kernel_rfl,by kernel_rfl,by kernel_rfl,by kernel_rfl,by kernel_rfl,by kernel_rfl⟩
def opName (c:UInt8): UInt8×List UInt8:=(108,[97,116,101,99,111,109,101,114,47,113,117,101,114,121,46,111,112,101,114,97,116,111,114,115,36,c])
def aggName (i:Nat): UInt8×List UInt8:=(108,[97,116,101,99,111,109,101,114,47,97,110,115,119,101,114,46,97,103,103,114,101,103,97,116,101,115,36,match i with | 0=>49 | 1=>50 | 2=>51 | 3=>52 | _=>53])
def aggFn (i:Nat): FuncId:=match i with | 0=>317 | 1=>319 | 2=>321 | 3=>323 | _=>324
theorem one49:((List.range PP.funcs.size).filter fun f=>(PP.funcs[f]?).any (·.name.toUTF8.data.toList==(opName 49).1::(opName 49).2))=[313]:=by kernel_rfl
theorem one50:((List.range PP.funcs.size).filter fun f=>(PP.funcs[f]?).any (·.name.toUTF8.data.toList==(opName 50).1::(opName 50).2))=[314]:=by kernel_rfl
theorem one51:((List.range PP.funcs.size).filter fun f=>(PP.funcs[f]?).any (·.name.toUTF8.data.toList==(opName 51).1::(opName 51).2))=[315]:=by kernel_rfl
theorem one52:((List.range PP.funcs.size).filter fun f=>(PP.funcs[f]?).any (·.name.toUTF8.data.toList==(opName 52).1::(opName 52).2))=[316]:=by kernel_rfl
theorem oneAgg0:((List.range PP.funcs.size).filter fun f=>(PP.funcs[f]?).any (·.name.toUTF8.data.toList==(aggName 0).1::(aggName 0).2))=[aggFn 0]:=by kernel_rfl
theorem oneAgg1:((List.range PP.funcs.size).filter fun f=>(PP.funcs[f]?).any (·.name.toUTF8.data.toList==(aggName 1).1::(aggName 1).2))=[aggFn 1]:=by kernel_rfl
theorem oneAgg2:((List.range PP.funcs.size).filter fun f=>(PP.funcs[f]?).any (·.name.toUTF8.data.toList==(aggName 2).1::(aggName 2).2))=[aggFn 2]:=by kernel_rfl
theorem oneAgg3:((List.range PP.funcs.size).filter fun f=>(PP.funcs[f]?).any (·.name.toUTF8.data.toList==(aggName 3).1::(aggName 3).2))=[aggFn 3]:=by kernel_rfl
theorem oneAgg4:((List.range PP.funcs.size).filter fun f=>(PP.funcs[f]?).any (·.name.toUTF8.data.toList==(aggName 4).1::(aggName 4).2))=[aggFn 4]:=by kernel_rfl
theorem oneAgg (i:Nat) (hi:i<5): ((List.range PP.funcs.size).filter fun f=>(PP.funcs[f]?).any (·.name.toUTF8.data.toList==(aggName i).1::(aggName i).2))=[aggFn i]:=by
 match i,hi with
 | 0,_=>exact oneAgg0
 | 1,_=>exact oneAgg1
 | 2,_=>exact oneAgg2
 | 3,_=>exact oneAgg3
 | 4,_=>exact oneAgg4
 | i+5,h=>exact absurd h (by omega)
end Go.Sx
end
section
set_option maxRecDepth 1000000
namespace Go.Sx
open Go Go.Deep Go.Proofs
open Go.Proofs.YtleifmkjbmhlpaaGreatDoor (Rows.certifySmallRow)
theorem laid_aggs {W:World} (hL:laidMetH PP Rows.certifySmallRow.laid W): ∃ b el fr ms clock,W.heap[3]? =some (.cells #[.map (some b)] el fr)∧W.heap[b]? =some (.map ms clock)∧ ∀ ρ,MapRel ρ aggEs ms.toList:=by
 obtain ⟨g,t,cs,fuel,p,hg,ht,hv,hd⟩:=hL.funcs (n := "latecomer/answer.aggregates") (d:=_) (by
  show _∈[_,_,_,_,_,_,_,_,_,_,_]
  iterate 9 apply List.mem_cons_of_mem
  exact List.mem_cons_self)
 obtain rfl:=Option.some.inj (gAggs.symm.trans hg)
 obtain rfl:=Option.some.inj (tAggs.symm.trans ht)
 obtain ⟨b,ms,clock,hcs,hb,h1,h2⟩:=open_five (N:=aggName) (F:=aggFn) Tryz.underlying264 Tryz.underlying3 Tryz.underlying263 rfl c1.2.2.2.2.1 c1.2.2.2.1 Tryz.underlying218 oneAgg (h:=hd)
 obtain ⟨el,fr,h3⟩:=heap_of hg hv
 rw [one_of hcs] at h3
 refine ⟨b,el,fr,ms,clock,h3,hb,fun ρ=>?_⟩
 obtain ⟨ms',k1,k2,k3⟩:=five_rel (V:=fun i=> .agg #[.func (.func (aggFn i)) #[] #[]]) h1 h2
 have fn : ∀ f,VR ρ (.agg [.fn f [] []]) (.agg #[.func (.func f) #[] #[]]):=fun f=>by
  simp only [VR]
  exact ⟨[.func (.func f) #[] #[]],rfl,VRs.cons_iff.2 ⟨by simp only [VR];exact ⟨[],[],rfl,rfl,rfl⟩,rfl⟩⟩
 refine ⟨ms',?_,?_,(fun h=>by cases h),k3⟩
 ·rw [k1]
  have i : ∀ n,VR ρ (.int .i64 n) (.int .i64 n):=fun n=>by simp only [VR]
  exact VRs.cons_iff.2 ⟨i 1,VRs.cons_iff.2 ⟨i 2,VRs.cons_iff.2 ⟨i 3,VRs.cons_iff.2 ⟨i 4,VRs.cons_iff.2 ⟨i 5,rfl⟩⟩⟩⟩⟩
 ·rw [k2]
  exact VRs.cons_iff.2 ⟨fn 317,VRs.cons_iff.2 ⟨fn 319,VRs.cons_iff.2 ⟨fn 321,VRs.cons_iff.2 ⟨fn 323,VRs.cons_iff.2 ⟨fn 324,rfl⟩⟩⟩⟩⟩
theorem laid_zero {W:World} (hL:laidMetH PP Rows.certifySmallRow.laid W): ∃ el fr,W.heap[1]? =some (.cells #[.string ⟨[48].toArray⟩,.string ⟨[49].toArray⟩] el fr):=by
 obtain ⟨g,t,cs,fuel,p,hg,ht,hv,hd⟩:=data_of hL (n := "latecomer/answer.zero") (d:=_) (by
  show _∈[_,_,_,_,_,_,_,_,_,_,_]
  iterate 8 apply List.mem_cons_of_mem
  exact List.mem_cons_self) rfl
 obtain rfl:=Option.some.inj (gZero.symm.trans hg)
 obtain rfl:=Option.some.inj (tZero.symm.trans ht)
 obtain ⟨el,fr,h3⟩:=heap_of hg hv
 obtain ⟨xs,n,_,hx,hl,hxl,hel⟩:=DataW.trod_struct Tryz.underlying32 hd
 have hl:cs.toList.length=2:=hl.trans c2.2.1
 have c9:PP.cellsOf 9=1:=c1.2.1
 simp only [Prod.mk.injEq] at hx
 obtain ⟨hx,_⟩:=hx
 match xs,hxl,hx with
 | [x0,x1],_,hx=>
  match hcs:cs.toList,hl with
  | [u0,u1],_=>
   have g0:DataW.trod (fun _=>()) Tryz.prog W 0 (fun _=>true) false n 9 (([u0,u1].drop 0).take (Tryz.prog.cellsOf 9))=some x0:=by have:=hel 0 _ rfl;rw [hcs] at this;exact this
   have g1:DataW.trod (fun _=>()) Tryz.prog W 0 (fun _=>true) false n 9 (([u0,u1].drop 1).take (Tryz.prog.cellsOf 9))=some x1:=by have:=hel 1 _ rfl;rw [hcs] at this;exact this
   rw [show Tryz.prog.cellsOf 9=1 from c9] at g0 g1
   simp only [List.drop_zero,List.take_succ_cons,List.take_zero,List.getElem?_cons_zero] at g0
   simp only [List.drop_succ_cons,List.drop_zero,List.take_succ_cons,List.take_zero,List.getElem?_cons_succ,List.getElem?_cons_zero] at g1
   obtain ⟨x0,p0⟩:=x0
   obtain ⟨x1,p1⟩:=x1
   have hx':([.lit (.string [48]),.lit (.string [49])]: List (DataW Unit))=[x0,x1]:=by injection hx
   simp only [List.cons.injEq,and_true] at hx'
   obtain ⟨rfl,rfl⟩:=hx'
   have e0:=str_of Tryz.underlying9 g0
   have e1:=str_of Tryz.underlying9 g1
   subst e0 e1
   refine ⟨el,fr,?_⟩
   rw [h3]
   congr 2
   apply Array.ext'
   exact hcs
theorem laid_round {W:World} (hL:laidMetH PP Rows.certifySmallRow.laid W): ∃ el fr,W.heap[2]? =some (.cells (Sha.consts.map fun n=>Value.int .u32 (Int.ofNat n)).toArray el fr):=by
 obtain ⟨g,t,cs,fuel,p,hg,ht,hv,hd⟩:=data_of hL (n := "latecomer/digest.round") (d:=_) (by
  show _∈[_,_,_,_,_,_,_,_,_,_,_]
  iterate 6 apply List.mem_cons_of_mem
  exact List.mem_cons_self) rfl
 obtain rfl:=Option.some.inj (gRound.symm.trans hg)
 obtain rfl:=Option.some.inj (tRound.symm.trans ht)
 obtain ⟨el,fr,h3⟩:=heap_of hg hv
 have:=Lib.cells_of_tab (k:=.u32) (zs:=Sha.consts.map fun n=>Int.ofNat n) Tryz.underlying236 Tryz.underlying159 c1.2.2.2.2.2 c2.2.2.1 hd
 refine ⟨el,fr,?_⟩
 rw [h3]
 congr 2
 apply Array.ext'
 rw [this,List.map_map]
 rfl
theorem laid_ops {ρ:Env} {W:World} (hρ:FzAll ρ W) (hL:laidMetH PP Rows.certifySmallRow.laid W): ∃ v el fr,W.heap[0]? =some (.cells #[v] el fr)∧VR ρ (.fslice 5 2 opsRow) v∧v.oneCell'=true:=by
 obtain ⟨g,t,cs,fuel,p,hg,ht,hv,hd⟩:=hL.funcs (n := "latecomer/query.operators") (d:=_) (by
  show _∈[_,_,_,_,_,_,_,_,_,_,_]
  iterate 7 apply List.mem_cons_of_mem
  exact List.mem_cons_self)
 obtain rfl:=Option.some.inj (gOps.symm.trans hg)
 obtain rfl:=Option.some.inj (tOps.symm.trans ht)
 obtain ⟨el,fr,h3⟩:=heap_of hg hv
 rcases open_slice Tryz.underlying99 hd with ⟨_,hx⟩ | ⟨a,len,cap,m,n,D,Pl,hcs,_,hl,_,hm,hx,hel⟩
 ·exact absurd hx (fun e=>by cases e)
 rw [one_of hcs] at h3
 refine ⟨_,el,fr,h3,?_,rfl⟩
 simp only [Prod.mk.injEq] at hx
 have hx1:DataW.slice [.agg [.lit (.string []),.nil],.agg [.lit (.string [61]),.held ((opName 49).1::(opName 49).2)],.agg [.lit (.string [33,61]),.held ((opName 50).1::(opName 50).2)],.agg [.lit (.string [60]),.held ((opName 51).1::(opName 51).2)],.agg [.lit (.string [62,61]),.held ((opName 52).1::(opName 52).2)]] []=DataW.slice ((List.range len).map D) ((List.range (m-len)).map fun j=>D (len+j)):=hx.1
 have hx2:[.agg [.lit (.string []),.nil],.agg [.lit (.string [61]),.held ((opName 49).1::(opName 49).2)],.agg [.lit (.string [33,61]),.held ((opName 50).1::(opName 50).2)],.agg [.lit (.string [60]),.held ((opName 51).1::(opName 51).2)],.agg [.lit (.string [62,61]),.held ((opName 52).1::(opName 52).2)]]=(List.range len).map D:=by injection hx1
 have h5:len=5:=by have:=congrArg List.length hx2;simpa using this.symm
 subst h5
 have dat : ∀ j d,[.agg [.lit (.string []),.nil],.agg [.lit (.string [61]),.held ((opName 49).1::(opName 49).2)],.agg [.lit (.string [33,61]),.held ((opName 50).1::(opName 50).2)],.agg [.lit (.string [60]),.held ((opName 51).1::(opName 51).2)],.agg [.lit (.string [62,61]),.held ((opName 52).1::(opName 52).2)]][j]? =some d→j<5→D j=d:=fun j d h hj=>by
  rw [hx2,List.getElem?_map,List.getElem?_range hj] at h
  exact Option.some.inj h
 have hle:5≤m:=by rw [hm];split<;>omega
 have ce:PP.cellsOf 98=2:=c2.1
 have str : ∀ s n c p,DataW.trod (funcToken PP) PP W 0 (fun _=>true) true n 9 [c]=some (.lit (.string s),p)→VR ρ.bare (.str s) c∧c.oneCell'=true:=fun s n c p h=>s_of (str_of Tryz.underlying9 h)
 refine fslice_of hρ (by omega) hl fun j hj=>?_
 obtain ⟨cs',h1,h2⟩:=hel j (by omega)
 rw [ce] at h1
 obtain ⟨_,hlen,hc⟩:=World.cells?_some h1
 have cells : ∀ k,k<2→W.cell? (a.add (j*2+k))=cs'[k]? :=fun k hk=>by
  have:=hc k hk
  rw [←add_add];exact this
 have fin : ∀ d0 d1 a0 a1,D j= .agg [d0,d1]→opsRow j=[a0,a1]→(∀ n c p,DataW.trod (funcToken PP) PP W 0 (fun _=>true) true n 9 [c]=some (d0,p)→VR ρ.bare a0 c∧c.oneCell'=true)→(∀ n c p,DataW.trod (funcToken PP) PP W 0 (fun _=>true) true n 96 [c]=some (d1,p)→VR ρ.bare a1 c∧c.oneCell'=true)→
   ∃ us:List Value,us.length=2∧(∀ u∈us,u.oneCell'=true)∧VRs ρ.bare (opsRow j) us∧ ∀ k,k<2→W.cell? (a.add (j*2+k))=us[k]? :=fun d0 d1 a0 a1 e1 e2 k0 k1=>by
  obtain ⟨us,rfl,g1,g2,g3⟩:=row_of (ρ:=ρ.bare) (a0:=a0) (a1:=a1) Tryz.underlying98 rfl rfl c1.2.1 c1.2.2.1 ce h2 e1 k0 k1
  exact ⟨cs',g1,g2,by rw [e2];exact g3,cells⟩
 match j,hj with
 | 0,_=>exact fin _ _ _ _ (dat 0 _ rfl (by omega)) rfl (str []) fun n c p h=>by rw [nil_of Tryz.underlying96 h];exact ⟨by simp only [VR],rfl⟩
 | 1,_=>exact fin _ _ _ _ (dat 1 _ rfl (by omega)) rfl (str [61]) fun n c p h=>fn_of (func_of_trod Tryz.underlying96 one49 h)
 | 2,_=>exact fin _ _ _ _ (dat 2 _ rfl (by omega)) rfl (str [33,61]) fun n c p h=>fn_of (func_of_trod Tryz.underlying96 one50 h)
 | 3,_=>exact fin _ _ _ _ (dat 3 _ rfl (by omega)) rfl (str [60]) fun n c p h=>fn_of (func_of_trod Tryz.underlying96 one51 h)
 | 4,_=>exact fin _ _ _ _ (dat 4 _ rfl (by omega)) rfl (str [62,61]) fun n c p h=>fn_of (func_of_trod Tryz.underlying96 one52 h)
 | j+5,h=>exact absurd h (by omega)
end Go.Sx
end
section
set_option maxRecDepth 1000000
namespace Go.Sx
open Go
def envOf (W:World) (b:Nat): Env where
 pl l:=if l<12 then some (l,match W.heap[l]? with | some (.cells cs _ _)=>cs.size | _=>0) else if l=13 then some (b,0) else none
 fz k:=match W.heap[k]? with | some (.cells cs _ _)=>some cs.toList | _=>none
theorem envOf_fz (W:World) (b:Nat): FzAll (envOf W b) W:=fun k cs el fr h=>by
 show (match W.heap[k]? with | some (.cells cs _ _)=>some cs.toList | _=>none)=_
 rw [h]
def ctxOf (W:World) (b:Nat): Ctx where
 w0:=W
 Z k:=k<W.heap.size
 G:=12
 X _:=False
 E _:=False
 ρ0:=envOf W b
theorem Hs_rw (l:Nat): (Hs.get l).rw=false:=Hs_live (P:=fun _ b=>b.rw=false) rfl rfl rfl rfl rfl (fun _=>rfl) l
theorem cells_ro {ρ:Env} {W:World} (hρ:FzAll ρ W) {g:Nat} {cs:Array Value} {el:TypeId} {fr:Nat×Nat} {avs:List AV} (h:W.heap[g]? =some (.cells cs el fr)) (hp:ρ g=some (g,cs.size)) (hv:VRs ρ avs cs.toList) (h1 : ∀ v∈cs.toList,v.oneCell'=true): CellsRel ρ W (ρ g) avs .ro:=by
 refine .inr ⟨g,cs.size,cs.toList,[],el,fr,hp,?_,by simp,hv,⟨(fun e=>by cases e),(fun _ e=>by cases e)⟩,h1,fun _=>?_⟩
 ·rw [List.append_nil];exact h
 ·rw [List.append_nil];exact hρ g cs el fr h
theorem rel_Hs {W:World} {b:Nat} (ops : ∃ v el fr,W.heap[0]? =some (.cells #[v] el fr)∧VR (envOf W b) (.fslice 5 2 opsRow) v∧v.oneCell'=true) (zero : ∃ el fr,W.heap[1]? =some (.cells #[.string ⟨[48].toArray⟩,.string ⟨[49].toArray⟩] el fr))
  (round : ∃ el fr,W.heap[2]? =some (.cells (Sha.consts.map fun n=>Value.int .u32 (Int.ofNat n)).toArray el fr)) (aggs : ∃ el fr ms clock,W.heap[3]? =some (.cells #[.map (some b)] el fr)∧W.heap[b]? =some (.map ms clock)∧ ∀ ρ,MapRel ρ aggEs ms.toList):
  Rel (ctxOf W b) (envOf W b) Hs W:=by
 have hρ:=envOf_fz W b
 have pl : ∀ g cs el fr,g<12→W.heap[g]? =some (.cells cs el fr)→envOf W b g=some (g,cs.size):=fun g cs el fr hg h=>by
  show (if g<12 then some (g,match W.heap[g]? with | some (.cells cs _ _)=>cs.size | _=>0) else _)=_
  rw [if_pos hg,h]
 obtain ⟨v,el0,fr0,o1,o2,o3⟩:=ops
 obtain ⟨el1,fr1,z1⟩:=zero
 obtain ⟨el2,fr2,r1⟩:=round
 obtain ⟨el3,fr3,ms,clock,a1,a2,a3⟩:=aggs
 have hdead : ∀ l,14≤l→Hs.get l= .dead:=fun l hl=>by
  rw [Hs_get,if_neg (by omega),if_neg (by omega),if_neg (by omega),if_neg (by omega),if_neg (by omega)]
 refine {blk:=fun l=>?_,sep:=fun l l' r N N' _ h=>(by rw [Hs_rw] at h;cases h),prot:=fun l r N h=>(by rw [Hs_rw] at h;cases h),keep:=fun k hk=>?_,size:=Nat.le_refl _,os:=rfl,output:=rfl,tape:=rfl,top:=fun l hl=>?_,glob:=fun g hg=>⟨_,if_pos hg⟩,hid:=fun _ _ _ _ _ h=>h,env:=fun _ h=>h.elim,low:=hdead,fro:=fun k vs h=>?_,frw:=fun l r N h=>(by rw [Hs_rw] at h;cases h),frx:=fun _ h=>h.elim,frk:=fun _ _ h=>h}
 ·refine Hs_live (P:=fun l blk=>BlkRel (envOf W b) W (envOf W b l) blk) ?_ ?_ ?_ ?_ ?_ (fun _=>trivial) l
  ·exact cells_ro hρ o1 (pl 0 _ _ _ (by omega) o1) (VRs.cons_iff.2 ⟨o2,rfl⟩) (fun x hx=>by
    have:x=v:=by simpa using hx
    rw [this];exact o3)
  ·exact cells_ro hρ z1 (pl 1 _ _ _ (by omega) z1) (VRs.cons_iff.2 ⟨by simp only [VR],VRs.cons_iff.2 ⟨by simp only [VR],rfl⟩⟩) (fun x hx=>by
    simp only [List.mem_cons,List.not_mem_nil,or_false] at hx
    rcases hx with rfl | rfl<;>rfl)
  ·refine cells_ro hρ r1 (pl 2 _ _ _ (by omega) r1) ?_ (fun x hx=>?_)
   ·have : ∀ l:List Nat,VRs (envOf W b) (l.map fun n=>AV.int .u32 (Int.ofNat n)) (l.map fun n=>Value.int .u32 (Int.ofNat n)):=fun l=>by
     induction l with
     | nil=>exact rfl
     | cons n l ih=>exact VRs.cons_iff.2 ⟨by simp only [VR],ih⟩
    exact this _
   ·obtain ⟨n,_,rfl⟩:=List.mem_map.1 hx
    rfl
  ·exact cells_ro hρ a1 (pl 3 _ _ _ (by omega) a1) (VRs.cons_iff.2 ⟨by simp only [VR];exact ⟨b,0,rfl,rfl⟩,rfl⟩) (fun x hx=>by
    have:x= .map (some b):=by simpa using hx
    rw [this];rfl)
  ·exact ⟨b,0,ms.toList,clock,rfl,a2,a3 _,fun e=>by cases e⟩
 ·rcases hk with hk | hk
  ·exact ⟨hk,rfl⟩
  ·exact hk.elim
 ·have hl:14≤l:=hl
  show (if l<12 then _ else if l=13 then _ else none)=none
  rw [if_neg (by omega),if_neg (by omega)]
 ·have h:(match W.heap[k]? with | some (.cells cs _ _)=>some cs.toList | _=>none)=some vs:=h
  split at h
  ·rename_i cs el fr hb
   cases h
   exact ⟨el,fr,by rw [hb]⟩
  ·cases h
end Go.Sx
end
section
set_option maxRecDepth 1000000
namespace Go.Sx
open Go Go.Deep Go.Proofs Go.ChangeShapes Go.WideShapes
open Go.Proofs.YtleifmkjbmhlpaaGreatDoor (Rows.certifySmallRow)
theorem rows4 (n:Nat) (X:Nat→Nat→Int) (h : ∀ j,j<n→ ∀ k,k<4→inR .i64 (X j k)=true): intsRows 4 n (xRow X)=true:=by
 refine List.all_eq_true.2 fun j hj=>?_
 have hj:=List.mem_range.1 hj
 show (inR .i64 (X j 0)&&(inR .i64 (X j 1)&&(inR .i64 (X j 2)&&(inR .i64 (X j 3)&&true))))=true
 rw [h j hj 0 (by omega),h j hj 1 (by omega),h j hj 2 (by omega),h j hj 3 (by omega)];rfl
theorem rows3 (n:Nat) (X:Nat→Nat→Int) (h : ∀ j,j<n→ ∀ k,k<3→inR .i64 (X j k)=true): intsRows 3 n (qRow X)=true:=by
 refine List.all_eq_true.2 fun j hj=>?_
 have hj:=List.mem_range.1 hj
 show (inR .i64 (X j 0)&&(inR .i64 (X j 1)&&(inR .i64 (X j 2)&&true)))=true
 rw [h j hj 0 (by omega),h j hj 1 (by omega),h j hj 2 (by omega)];rfl
theorem old_of {W:World} {b:Nat} {ρ:Env} {H:AH} {w:World} (h:Rel (ctxOf W b) ρ H w): OldKept W w:=⟨h.os,h.output,fun i hi=>(h.keep i (.inl hi)).2⟩
end Go.Sx
end
