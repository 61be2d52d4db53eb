/- CertifyOpens is proved, part 30. -/
import Derived.Test.YtleifmkjbmhlpaaGreatDoorX29
import Derived.Test.YtleifmkjbmhlpaaGreatDoorX10
import Derived.Test.YtleifmkjbmhlpaaGreatDoorX28
set_option linter.unusedVariables false
set_option linter.unusedSimpArgs false
set_option linter.unusedSectionVars false
section
set_option maxRecDepth 1000000
namespace Go.Sx
open Go
def opsRow (j:Nat): List AV:=match j with | 0=>[.str [],.nilFn] | 1=>[.str [61],.fn 313 [] []] | 2=>[.str [33,61],.fn 314 [] []] | 3=>[.str [60],.fn 315 [] []] | _=>[.str [62,61],.fn 316 [] []]
def aggEs:List (AV×AV):=(.any,.any)::[(.int .i64 1,.agg [.fn 317 [] []]),(.int .i64 2,.agg [.fn 319 [] []]),(.int .i64 3,.agg [.fn 321 [] []]),(.int .i64 4,.agg [.fn 323 [] []]),(.int .i64 5,.agg [.fn 324 [] []])]
noncomputable def Hs:AH:={n:=14,t:=Tr.ofList [(0,.cells [.fslice 5 2 opsRow] .ro),(1,.cells [.str [48],.str [49]] .ro),(2,.cells constAVs .ro),(3,.cells [.map (some 13)] .ro),(13,.map aggEs)]}
noncomputable abbrev ks9:List (Known PP II):=[kWithin,kHalf,kCompare,kOr,kValid,kByPlace,kSorted,kValids,kNoEscape,kInts,kSum,kLeaf,kDig42,kJoin,kGrow,kRoot41,kRoot16,kOf13]
end Go.Sx
end
section
namespace Go.Sx
open Go
theorem loop_gives_any0 {P:Program} {I:Info} {ι:Type} {n0:Nat} {J:ι→Prop} {S:ι→St} {E:ι→AExit} {μ:ι→Nat} {c:Code} {ir:Bool} (hI0:I.G≤n0)
  (step : ∀ i,J i→ ∀ ro n cx ρ a w,(ir=false→ro=none)→cx.G=I.G→SRel cx ρ (S i) a w→c.wpIn (WF ro) n P (fun x a w=> ∃ e,Round n0 J S E μ i e∧e.post cx ρ x a w) a w):
  ∀ m i,J i→μ i<m→ ∀ t,t= .inLoop c∨t= .code (.loop c)→ ∀ ro n cx ρ a w,(ir=false→ro=none)→cx.G=I.G→(∀ l,cx.E l→l<n0)→SRel cx ρ (S i) a w→TaskWp (WF ro) n P t ((E i).post0 n0 cx ρ) a w:=by
 intro m
 induction m with
 | zero=>intro i _ h;exact absurd h (Nat.not_lt_zero _)
 | succ m ih=>
  intro i hJ hi t ht ro n cx ρ a w hro hG hE hr
  refine wp_round t ht ?_
  refine wpIn_mono (step i hJ ro n cx ρ a w hro hG hr) fun x a1 w1 hp=>?_
  obtain ⟨e,h2,hp⟩:=hp
  have hG0:cx.G≤n0:=by rw [hG];exact hI0
  cases e with
  | n s=>
   cases x with
   | normal=>
    obtain ⟨ρ1,hx,hr1⟩:=hp
    obtain ⟨j,hJj,hj,hle,hE'⟩:=h2
    obtain ⟨ρ2,h3,h4⟩:=hr1.view hle hG0 hE
    have:=ih j hJj (by omega) (.inLoop c) (.inl rfl) ro n cx ρ2 a1 w1 hro hG hE h4
    rw [hE'] at this
    exact this.mono fun x a w hp=>AExit.post0_ext ((Ext0.of hx).trans h3) hp
   | _=>exact hp.elim
  | x i s=>
   cases x with
   | exit id=>exact AExit.post0_le h2 hG0 hE (AExit.post0_of hp)
   | _=>exact hp.elim
  | g i s=>
   cases x with
   | goto id=>exact AExit.post0_le h2 hG0 hE (AExit.post0_of hp)
   | _=>exact hp.elim
  | r s=>
   cases x with
   | ret=>exact AExit.post0_le h2 hG0 hE (AExit.post0_of hp)
   | _=>exact hp.elim
  | p v s=>simp only [Round,AExit.Le] at h2
theorem loop_gives_any {P:Program} {I:Info} {ι:Type} {s:St} {J:ι→Prop} {S:ι→St} {E:ι→AExit} (μ:ι→Nat) {c:Code} {ir:Bool} {i:ι} (hI0:I.G≤s.H.n) (hJ:J i) (start:St.Le s.H.n s (S i))
  (step : ∀ i,J i→ ∀ ro n cx ρ a w,(ir=false→ro=none)→cx.G=I.G→SRel cx ρ (S i) a w→c.wpIn (WF ro) n P (fun x a w=> ∃ e,Round s.H.n J S E μ i e∧e.post cx ρ x a w) a w): TaskGives P I ir (.code (.loop c)) s (E i):=by
 intro ro n cx ρ a w hro hG hr
 have hE : ∀ l,cx.E l→l<s.H.n:=fun l hl=>(hr.heap.env l hl).1
 obtain ⟨ρ1,h1,h2⟩:=hr.view start (by rw [hG];exact hI0) hE
 have:=loop_gives_any0 hI0 step (μ i+1) i hJ (Nat.lt_succ_self _) _ (.inr rfl) ro n cx ρ1 a w hro hG hE h2
 exact this.mono fun x a w hp=>AExit.post0_ext0 hr.heap rfl (AExit.post0_ext h1 hp)
section
variable {P:Program} {I:Info} (hI:I.Ok P)
def walkRest (ks:List (Known P I)) (Λ:Loops Prop) (fuel:Nat) (ir:Bool) (ops:Array Oper) (o2:Oper) (y:Code) (k:KS Prop) (s:St): Prop :=
 rops RI.prop I (callOf RI.prop I (known RI.prop ks) (krun ks Λ fuel)) (roundOf RI.prop (krun ks Λ fuel)) ops {k with n:=fun s'=>krun ks Λ fuel ir (.code y) s' k} [o2] s
include hI in
theorem walkRest_ok {ks:List (Known P I)} {Λ:Loops Prop} (hΛ:LoopsOk P I id Λ) {fuel:Nat} {ir:Bool} {ops:Array Oper} {o1 o2:Oper} (hops:ops= #[o1,o2]) {y:Code} {k:KS Prop} {s:St} (h:walkRest ks Λ fuel ir ops o2 y k s):
  ∃ e:AExit,e.sem id k∧ ∀ ro n c ρ a w (Q:Exit→Act→World→Prop),(ir=false→ro=none)→c.G=I.G→SRel c ρ s a w→(∀ x a' w',e.post c ρ x a' w'→Q x a' w')→wpOpsIn (WF ro) n P ops (Exit.then (y.wpIn (WF ro) n P Q) Q) [1] a w:=by
 have hrec:=krun_ok hI ks hΛ fuel
 have hcall:=callOf_ok RI.prop_ok hI (known_ok RI.prop_ok ks) hrec
 have hround:=roundOf_ok RI.prop_ok (P:=P) (I:=I) hrec
 obtain ⟨e1,h1,h2⟩:=rops_ok RI.prop_ok hI hcall hround [o2] 1 s (by rw [hops];rfl) h
 have h2 : ∀ ro n c ρ a w (Q:Exit→Act→World→Prop),c.G=I.G→SRel c ρ s a w→(∀ x a' w',e1.post c ρ x a' w'→Q x a' w')→wpOpsIn (WF ro) n P ops Q [1] a w:=h2
 cases e1 with
 | n s1=>
  obtain ⟨e2,h3,h4⟩:=hrec _ _ _ _ h1
  refine ⟨e2,h3,fun ro n c ρ a w Q hro hG hr hQ=>h2 ro n c ρ a w _ hG hr fun x a1 w1 hp=>?_⟩
  cases x with
  | normal=>
   obtain ⟨ρ1,hx,hr1⟩:=hp
   exact wpIn_mono (h4 ro n c ρ1 a1 w1 hro hG hr1) fun x a2 w2 hp=>hQ _ _ _ (AExit.post_ext hx hp)
  | _=>exact hp.elim
 | x i s1=>
  refine ⟨.x i s1,h1,fun ro n c ρ a w Q hro hG hr hQ=>h2 ro n c ρ a w _ hG hr fun x a1 w1 hp=>?_⟩
  cases x with
  | exit id=>exact hQ _ _ _ hp
  | _=>exact hp.elim
 | g i s1=>
  refine ⟨.g i s1,h1,fun ro n c ρ a w Q hro hG hr hQ=>h2 ro n c ρ a w _ hG hr fun x a1 w1 hp=>?_⟩
  cases x with
  | goto id=>exact hQ _ _ _ hp
  | _=>exact hp.elim
 | r s1=>
  refine ⟨.r s1,h1,fun ro n c ρ a w Q hro hG hr hQ=>h2 ro n c ρ a w _ hG hr fun x a1 w1 hp=>?_⟩
  cases x with
  | ret=>exact hQ _ _ _ hp
  | _=>exact hp.elim
 | p v s1=>
  refine ⟨.p v s1,h1,fun ro n c ρ a w Q hro hG hr hQ=>h2 ro n c ρ a w _ hG hr fun x a1 w1 hp=>?_⟩
  cases x with
  | panic ch=>exact hQ _ _ _ hp
  | _=>exact hp.elim
def walkEnd (o1:Oper) (s:St): St:=s.put o1.dst (.tup [.bool false])
def walkOn (o1:Oper) (li l n:Nat) (f:Nat→Int) (S:List Nat) (s:St) (j:Nat): St:=(s.heap (s.H.set li (.iwalk l n (j::S)))).put o1.dst (.tup [.bool true,.int .i64 (f j),.bool true])
include hI in
theorem walk_round {ks:List (Known P I)} {Λ:Loops Prop} (hΛ:LoopsOk P I id Λ) {fuel:Nat} {ir:Bool} {id:Nat} {ops:Array Oper} {o1 o2:Oper} (hops:ops= #[o1,o2]) {it:Operand} (ho1:o1.op= .next it false) (hg:o1.guard=none) {y:Code} {k:KS Prop} {kj:Nat→KS Prop} {G:AExit→Prop} (hk : ∀ e:AExit,e.sem _root_.id k→G e) (hkj : ∀ j (e:AExit),e.sem _root_.id (kj j)→G e) {s:St}
  {li l n:Nat} {f:Nat→Int} {S:List Nat} (hit:s.ev I.G it= .ptr li 0 0 0) (hi:s.H.get li= .iwalk l n S) (hl:s.H.get l= .iset n f)
  (hend:(∀ j,j<n→j∈S)→walkRest ks Λ fuel ir ops o2 y k (walkEnd o1 s)) (hon : ∀ j,j<n→j∉S→walkRest ks Λ fuel ir ops o2 y (kj j) (walkOn o1 li l n f S s j))
  (ro:Option Nat) (nn:Nat) (c:Ctx) (ρ:Env) (a:Act) (w:World) (hro:ir=false→ro=none) (hG:c.G=I.G) (hr:SRel c ρ s a w):
  (Code.seq (.region id ops false) y).wpIn (WF ro) nn P (fun x a w=> ∃ e:AExit,G e∧e.post c ρ x a w) a w:=by
 have hv:=hr.ev hG it
 rw [hit] at hv
 simp only [VR] at hv
 obtain ⟨r,R',hr0,hv⟩:=hv
 have hb1:=hr.heap.blk li
 rw [hi,hr0] at hb1
 obtain ⟨b,N,m,M,e1,e2,e3⟩:=hb1
 cases e1
 have hb2:=hr.heap.blk l
 rw [hl,e2] at hb2
 obtain ⟨b2,N2,f1,f2⟩:=hb2
 cases f1
 simp only [Nat.zero_mul,Nat.zero_add] at hv
 have hd : ∀ c,o1.op≠ .defer c:=by intro c;rw [ho1];simp
 have hold : ∀ x∈(isetMs n f).toArray.toList,x.born<n:=by
  intro x hx
  obtain ⟨i,hi,rfl⟩:=List.mem_map.1 hx
  exact List.mem_range.1 hi
 refine wpIn_seq (wpIn_region ?_)
 have hsz:List.range ops.size=[0,1]:=by rw [hops];rfl
 rw [hsz]
 refine wpOpsIn_run (o:=o1) (by rw [hops];rfl) (by simp [Region.wanted,hg]) ⟨wf_about,?_⟩
 rw [Oper.semAt_eq _ _ _ hd]
 rcases Go.run_next_at (P:=P) w o1.type r m n n S.reverse.toArray (isetMs n f).toArray n e3 f2 hold (Nat.le_refl _) with ⟨h0,hrun⟩ | ⟨x,hx,w1,hw1,hrun⟩
 ·have hall : ∀ j,j<n→j∈S:=by
   intro j hj
   apply Classical.byContradiction
   intro hne
   have h1:({key:=.int .i64 (f j),val:=.bool true,born:=j}: MapEntry)∈(leftOf (isetMs n f).toArray S.reverse.toArray).toList:=by
    simp only [leftOf,Array.toList_filter,List.mem_filter]
    exact ⟨isetMs_mem hj,by simpa using hne⟩
   have h2:=Array.eq_empty_of_size_eq_zero h0
   rw [h2] at h1
   simp at h1
  obtain ⟨e,k1,k2⟩:=walkRest_ok hI hΛ hops (hend hall)
  have e4:(execOp a.eval o1).run P w= .ok (.value (.tuple #[.bool false])) w:=by
   simp only [execOp,ho1,hv,Sem.run_bind,hrun,Result.andThen_ok,Sem.run_pure]
  rw [e4,Oper.uponIn_value]
  have hs:SRel c ρ (walkEnd o1 s) (a.put o1.dst (.tuple #[.bool false])) w :=
   hr.put (Ext.refl ρ) hr.heap (by simp only [VR];exact ⟨[.bool false],rfl,VRs.cons_iff.2 ⟨by simp only [VR],by simp [VRs]⟩⟩) o1.dst
  exact k2 ro nn c ρ _ w _ hro hG hs fun x a1 w1 hp=>⟨e,hk e k1,hp⟩
 ·simp only [leftOf,Array.toList_filter,List.mem_filter] at hx
  obtain ⟨hx1,hx2⟩:=hx
  obtain ⟨j,hj,rfl⟩:=List.mem_map.1 hx1
  have hj:=List.mem_range.1 hj
  have hne:j∉S:=by simpa using hx2
  obtain ⟨e,k1,k2⟩:=walkRest_ok hI hΛ hops (hon j hj hne)
  have e4:(execOp a.eval o1).run P w= .ok (.value (.tuple #[.bool true,.int .i64 (f j),.bool true])) (ChangeMaps.setBlock w1 r (.mapIter (some m) n (S.reverse.toArray.push j) n)):=by
   simp only [execOp,ho1,hv,Sem.run_bind,hrun,Result.andThen_ok,Sem.run_pure]
  rw [e4,Oper.uponIn_value]
  have hlt:r<w.heap.size:=(Array.getElem?_eq_some_iff.1 e3).1
  have hw:w1.heap=w.heap∧w1.os=w.os∧w1.output=w.output∧w1.tape=w.tape:=by rcases hw1 with rfl | rfl<;>exact ⟨rfl,rfl,rfl,rfl⟩
  have hr1:Rel c ρ (s.H.set li (.iwalk l n (j::S))) (ChangeMaps.setBlock w1 r (.mapIter (some m) n (S.reverse.toArray.push j) n)):=by
   refine hr.heap.turn _ (by rw [hi];rfl) hr0 (fun i hne=>?_) ?_ hw.2.1 hw.2.2.1 hw.2.2.2 ?_
   ·simp only [ChangeMaps.setBlock,hw.1]
    rw [Array.getElem?_setIfInBounds,if_neg (fun e=>hne e.symm)]
   ·simp only [ChangeMaps.setBlock,hw.1]
    simp
   ·refine ⟨r,_,m,M,rfl,e2,?_⟩
    simp only [ChangeMaps.setBlock,hw.1]
    rw [Array.getElem?_setIfInBounds,if_pos rfl,if_pos hlt]
    simp
  have hs:SRel c ρ (walkOn o1 li l n f S s j) (a.put o1.dst (.tuple #[.bool true,.int .i64 (f j),.bool true])) (ChangeMaps.setBlock w1 r (.mapIter (some m) n (S.reverse.toArray.push j) n)):=
   hr.put (Ext.refl ρ) hr1 (by simp only [VR];exact ⟨[.bool true,.int .i64 (f j),.bool true],rfl,VRs.cons_iff.2 ⟨by simp only [VR],VRs.cons_iff.2 ⟨by simp only [VR],VRs.cons_iff.2 ⟨by simp only [VR],by simp [VRs]⟩⟩⟩⟩) o1.dst
  exact k2 ro nn c ρ _ _ _ hro hG hs fun x a1 w1 hp=>⟨e,hkj j e k1,hp⟩
theorem LoopAt.walk (hI:I.Ok P) (ks:List (Known P I)) {Λ:Loops Prop} (hΛ:LoopsOk P I id Λ) (fuel:Nat) {ι:Type} {c:Code} {ir:Bool} {rid:Nat} {o1 o2:Oper} {y:Code} (hc:c= .seq (.region rid #[o1,o2] false) y) {it:Operand} (ho1:o1.op= .next it false) (hg:o1.guard=none)
  (n0:Nat) (J:ι→Prop) (S:ι→St) (E:ι→GE) (μ:ι→Nat) (nx:ι→Nat→ι) (i0:ι) (li l:Nat) (n:ι→Nat) (f:ι→Nat→Int) (seen:ι→List Nat)
  (hI0:Nat.ble I.G n0=true) (hJ:J i0) (hst : ∀ i,J i→(S i).ev I.G it= .ptr li 0 0 0∧(S i).H.get li= .iwalk l (n i) (seen i)∧(S i).H.get l= .iset (n i) (f i))
  (hend : ∀ i,J i→(∀ j,j<n i→j∈seen i)→walkRest ks Λ fuel ir #[o1,o2] o2 y (nextK n0 S E (fun i=>i) False i) (walkEnd o1 (S i)))
  (hon : ∀ i,J i→ ∀ j,j<n i→j∉seen i→walkRest ks Λ fuel ir #[o1,o2] o2 y (nextK n0 S E (fun i=>nx i j) (J (nx i j)∧μ (nx i j)<μ i∧(E (nx i j)).pick=(E i).pick) i) (walkOn o1 li l (n i) (f i) (seen i) (S i) j)):
  LoopAt P I ir c n0 (S i0) (E i0) where
 h s0 hn0 hs:=by
  subst hn0
  refine loop_gives_any (S:=S) (E:=fun i=>(E i).pick) (J:=J) μ (Nat.le_of_ble_eq_true hI0) hJ hs fun i hi ro nn cx ρ a w hro hG hr=>?_
  obtain ⟨h1,h2,h3⟩:=hst i hi
  rw [hc]
  have mono : ∀ (nx:ι→ι) (Q:Prop),(Q→J (nx i)∧μ (nx i)<μ i∧(E (nx i)).pick=(E i).pick)→ ∀ e:AExit,e.sem id (nextK s0.H.n S E nx Q i)→Round s0.H.n J S (fun i=>(E i).pick) μ i e:=by
   intro nx Q hQ e he
   cases e with
   | n s=>
    obtain ⟨k1,k2⟩:=StLq.ok (K:=Q) he
    obtain ⟨k3,k4,k5⟩:=hQ k2
    exact ⟨nx i,k3,k4,k1,k5⟩
   | x b s=>exact GE.meets_ok (g:=E i) he
   | g b s=>exact GE.meets_ok (g:=E i) he
   | r s=>exact GE.meets_ok (g:=E i) he
   | p v s=>exact he.elim
  exact walk_round hI hΛ rfl ho1 hg (mono (fun i=>i) False fun h=>h.elim) (fun j=>mono (fun i=>nx i j) _ id) h1 h2 h3 (hend i hi) (hon i hi) ro nn cx ρ a w hro hG hr
end
end Go.Sx
end
section
set_option maxRecDepth 1000000
namespace Go.Sx
open Go
noncomputable def HO:AH:={n:=12,t:=Tr.ofList [(0,.cells [.fslice 5 2 opsRow] .ro)]}
noncomputable abbrev ko (ks:List (Known PP II)) (T:LTab) (f:FuncId) (args:List AV) (Q:AV→Prop): Prop :=
 kbody ks (lamT PP II T) 1000 f args HO (fun a H=>frz RI.prop 100000 a H fun a' H2=>Asks (Nat.ble 12 H2.n) (H2.get 0= .cells [.fslice 5 2 opsRow] .ro∧Q a')) (fun _ _=>False)
def walkY:Code→Code
 | .seq _ y=>y
 | _=> .skip
def walkOps:Code→Array Oper
 | .seq (.region _ ops _) _=>ops
 | _=> #[]
def walkId:Code→Nat
 | .seq (.region id _ _) _=>id
 | _=>0
def noOper:Oper:={dst:=none,op:=.entry (.tmp 0),type:=0,pos := "",after := #[],guard:=none}
def oper (c:Code) (i:Nat): Oper:=match (walkOps c)[i]? with | some o=>o | none=>noOper
noncomputable abbrev kwE {ι:Type} (ks:List (Known PP II)) (T:LTab) (f key n0:Nat) (S:ι→St) (E:ι→GE) (i:ι): Prop :=
 walkRest ks (lamT PP II T) 1000 false #[oper (loopOf II f key) 0,oper (loopOf II f key) 1] (oper (loopOf II f key) 1) (walkY (loopOf II f key)) (nextK n0 S E (fun i=>i) False i) (walkEnd (oper (loopOf II f key) 0) (S i))
noncomputable abbrev kwN {ι:Type} (ks:List (Known PP II)) (T:LTab) (f key n0:Nat) (S:ι→St) (E:ι→GE) (nx:ι→ι) (Q:Prop) (i:ι) (li l n:Nat) (K:Nat→Int) (seen:List Nat) (j:Nat): Prop :=
 walkRest ks (lamT PP II T) 1000 false #[oper (loopOf II f key) 0,oper (loopOf II f key) 1] (oper (loopOf II f key) 1) (walkY (loopOf II f key)) (nextK n0 S E nx Q i) (walkOn (oper (loopOf II f key) 0) li l n K seen (S i) j)
noncomputable def s14 (q:Query) (x:Fact) (c p:Int→Bool) (lo hi:Int→Int) (n:Int→Nat) (K:Int→Nat→Int) (i:Int): St:={t:=Tr.ofList [(2,.ptr 12 0 0 0),(3,.ptr 13 0 0 0),(7,.bool (c i)),(8,.bool (p i)),(9,.int .i64 (lo i)),(10,.int .i64 (hi i)),(11,.map (some 20)),(31,.fslice q.nw 3 (qRow q.C)),(32,.int .i64 q.nw),(33,.int .i64 i)],nt:=124,H:={n:=21,t:=Tr.ofList [(0,.cells [.fslice 5 2 opsRow] .ro),(12,.cells (queryAV q) (.ty 34)),(13,.cells (factAV x) (.ty 43)),(20,.iset (n i) (K i))]},df:=[]}
noncomputable def e14 (x:Fact) (c p:Bool) (lo hi:Int) (n:Nat) (K:Nat→Int): GE:=.one (.x 0 {t:=Tr.ofList [(3,.ptr 13 0 0 0),(7,.bool c),(8,.bool p),(9,.int .i64 lo),(10,.int .i64 hi),(11,.map (some 20))],nt:=124,H:={n:=21,t:=Tr.ofList [(0,.cells [.fslice 5 2 opsRow] .ro),(13,.cells (factAV x) (.ty 43)),(20,.iset n K)]},df:=[]})
noncomputable def s14b (x:Fact) (c p:Bool) (lo hi:Int) (n:Nat) (K:Nat→Int) (left:List Nat→Int) (S:List Nat): St:={t:=Tr.ofList [(3,.ptr 13 0 0 0),(7,.bool c),(8,.bool p),(9,.int .i64 lo),(10,.int .i64 hi),(15,.int .i64 (left S)),(97,.ptr 21 0 0 0)],nt:=124,H:={n:=22,t:=Tr.ofList [(0,.cells [.fslice 5 2 opsRow] .ro),(13,.cells (factAV x) (.ty 43)),(20,.iset n K),(21,.iwalk 20 n S)]},df:=[]}
noncomputable def e14b (x:Fact) (c p:Bool) (left:Int): GE:=.one (.x 3 {t:=Tr.ofList [(3,.ptr 13 0 0 0),(7,.bool c),(8,.bool p),(15,.int .i64 left)],nt:=124,H:={n:=22,t:=Tr.ofList [(0,.cells [.fslice 5 2 opsRow] .ro),(13,.cells (factAV x) (.ty 43))]},df:=[]})
theorem mat_end (x:Fact) (c p:Bool) (lo hi:Int) (n:Nat) (K:Nat→Int) (left:List Nat→Int) (leftE:Int) (S:List Nat): (kwE [] [] 14 24002 22 (s14b x c p lo hi n K left) (fun _=>e14b x c p leftE) S)=(EqI x.t x.t (EqI x.s x.s (EqI x.v x.v (EqI x.w x.w (EqI x.o x.o (EqI x.p x.p (EqI x.d x.d (EqI x.l x.l (EqI x.h x.h (EqI x.b x.b (RowsLe 5 opsRow opsRow∧EqI (left S) leftE (c=c∧p=p∧True)))))))))))):=by kernel_rfl
theorem mat_on (x : Fact) (c p : Bool) (lo hi : Int) (n : Nat) (K : Nat → Int) (left : List Nat → Int) (leftE : Int) (S : List Nat) (j : Nat) (Q : Prop) : (kwN [] [] 14 24002 22 (s14b x c p lo hi n K left) (fun _ => e14b x c p leftE) (fun S => j :: S) Q S 21 20 n K S j) = (Asks (Nat.beq n n && Nat.blt j n) (Cond (decide (K j ≥ lo)) (Cond (decide (K j ≤ hi)) (Asks (inR IntKind.i64 (left S - (1 : Int))) (EqN n n (j :: S = j :: S ∧ EqN n n ((∀ (i : Nat), i < n → K i = K i) ∧ EqI (Fact.t x) (Fact.t x) (EqI (Fact.s x) (Fact.s x) (EqI (Fact.v x) (Fact.v x) (EqI (Fact.w x) (Fact.w x) (EqI (Fact.o x) (Fact.o x) (EqI (Fact.p x) (Fact.p x) (EqI (Fact.d x) (Fact.d x) (EqI (Fact.l x) (Fact.l x) (EqI (Fact.h x) (Fact.h x) (EqI (Fact.b x) (Fact.b x) (RowsLe (5 : Nat) opsRow opsRow ∧ EqI (left S - (1 : Int)) (left (j :: S)) (c = c ∧ EqI lo lo (p = p ∧ EqI hi hi Q)))))))))))))))) (EqN n n (j :: S = j ::
 S ∧ EqN n n ((∀ (i : Nat), i < n → K i = K i) ∧ EqI (Fact.t x) (Fact.t x) (EqI (Fact.s x) (Fact.s x) (EqI (Fact.v x) (Fact.v x) (EqI (Fact.w x) (Fact.w x) (EqI (Fact.o x) (Fact.o x) (EqI (Fact.p x) (Fact.p x) (EqI (Fact.d x) (Fact.d x) (EqI (Fact.l x) (Fact.l x) (EqI (Fact.h x) (Fact.h x) (EqI (Fact.b x) (Fact.b x) (RowsLe (5 : Nat) opsRow opsRow ∧ EqI (left S) (left (j :: S)) (c = c ∧ EqI lo lo (p = p ∧ EqI hi hi Q)))))))))))))))) (EqN n n (j :: S = j :: S ∧ EqN n n ((∀ (i : Nat), i < n → K i = K i) ∧ EqI (Fact.t x) (Fact.t x) (EqI (Fact.s x) (Fact.s x) (EqI (Fact.v x) (Fact.v x) (EqI (Fact.w x) (Fact.w x) (EqI (Fact.o x) (Fact.o x) (EqI (Fact.p x) (Fact.p x) (EqI (Fact.d x) (Fact.d x) (EqI (Fact.l x) (Fact.l x) (EqI (Fact.h x) (Fact.h x) (EqI (Fact.b x) (Fact.b x) (RowsLe (5 : Nat) opsRow opsRow ∧ EqI (left S) (left (j :: S)) (c = c ∧ EqI lo lo (p = p ∧ EqI hi hi Q))))))))))))))))) :=
 by kernel_rfl
theorem mat_step (q : Query) (x : Fact) (c p : Int → Bool) (lo hi : Int → Int) (n : Int → Nat) (K : Int → Nat → Int) (cE pE : Bool) (loE hiE : Int) (nE : Nat) (KE : Nat → Int) (i : Int) (Q : Prop) : (kr [kVal39] [] 14 7001 21 (s14 q x c p lo hi n K) (fun _ => e14 x cE pE loE hiE nE KE) (fun i => i + 1) Q i) = (let zz3 := (EqI (lo i) (lo (i + 1)) (EqI (Int.ofNat q.nw) (Int.ofNat q.nw) (false = p (i + 1) ∧ EqI (hi i) (hi (i + 1)) Q))); let zz1 := (Asks (inR .i64 (i + 1)) (EqN (n i) (n (i + 1)) ((∀ (i_1 : Nat), i_1 < n i → K i i_1 = K (i + 1) i_1) ∧ EqI x.t x.t (EqI x.s x.s (EqI x.v x.v (EqI x.w x.w (EqI x.o x.o (EqI x.p x.p (EqI x.d x.d (EqI x.l x.l (EqI x.h x.h (EqI x.b x.b (EqN q.nw q.nw (RowsLe q.nw (qRow q.C) (qRow q.C) ∧ EqN q.ng q.ng (RowsLe q.ng (gRow q.G) (gRow q.G) ∧ EqI q.a q.a (EqI q.fl q.fl (EqB q.nu q.nu (EqB q.de q.de (EqI q.top q.top (RowsLe 5 opsRow opsRow ∧ EqN q.nw q.nw
 (RowsLe q.nw (qRow q.C) (qRow q.C) ∧ false = c (i + 1) ∧ EqI (i + 1) (i + 1) zz3))))))))))))))))))))); let zz2 := (EqI x.s x.s (EqI x.v x.v (EqI x.w x.w (EqI x.o x.o (EqI x.p x.p (EqI x.d x.d (EqI x.l x.l (EqI x.h x.h (EqI x.b x.b (EqN q.nw q.nw (RowsLe q.nw (qRow q.C) (qRow q.C) ∧ EqN q.ng q.ng (RowsLe q.ng (gRow q.G) (gRow q.G) ∧ EqI q.a q.a (EqI q.fl q.fl (EqB q.nu q.nu (EqB q.de q.de (EqI q.top q.top (RowsLe 5 opsRow opsRow ∧ EqN q.nw q.nw (RowsLe q.nw (qRow q.C) (qRow q.C) ∧ c i = c (i + 1) ∧ EqI (i + 1) (i + 1) (EqI (lo i) (lo (i + 1)) (EqI (Int.ofNat q.nw) (Int.ofNat q.nw) (p i = p (i + 1) ∧ EqI (hi i) (hi (i + 1)) Q))))))))))))))))))))); let zz4 := (EqI (lo i) (lo (i + 1)) (EqI (Int.ofNat q.nw) (Int.ofNat q.nw) ((!decide (valF x (q.C (Int.toNat i) 0) 0 = q.C (Int.toNat i) 2)) = p (i + 1) ∧ EqI (hi i) (hi (i + 1)) Q))); let zz5 := (EqI (lo i) (lo (i + 1)) (EqI (Int.ofNat q.nw)
 (Int.ofNat q.nw) (decide (valF x (q.C (Int.toNat i) 0) 0 ≥ q.C (Int.toNat i) 2) = p (i + 1) ∧ EqI (hi i) (hi (i + 1)) Q))); (Cond (decide (i < Int.ofNat q.nw)) (Asks (decide (0 ≤ i) && decide (i < Int.ofNat q.nw)) (Cond (!decide (q.C (Int.toNat i) 0 = 8)) (Cond (decide (q.C (Int.toNat i) 1 = 0)) (Asks (decide (q.C (Int.toNat i) 1 = q.C (Int.toNat i) 1)) (Asks (decide (q.C (Int.toNat i) 2 = q.C (Int.toNat i) 2)) False)) (Cond (decide (q.C (Int.toNat i) 1 = 1)) (Asks (decide (q.C (Int.toNat i) 1 = q.C (Int.toNat i) 1)) (Asks (decide (q.C (Int.toNat i) 2 = q.C (Int.toNat i) 2)) (Cond (c i) (Cond (p i) (Asks (inR .i64 (i + 1)) (EqN (n i) (n (i + 1)) ((∀ (i_1 : Nat), i_1 < n i → K i i_1 = K (i + 1) i_1) ∧ EqI x.t x.t (EqI x.s x.s (EqI x.v x.v (EqI x.w x.w (EqI x.o x.o (EqI x.p x.p (EqI x.d x.d (EqI x.l x.l (EqI x.h x.h (EqI x.b x.b (EqN q.nw q.nw (RowsLe q.nw (qRow q.C) (qRow q.C) ∧ EqN q.ng
 q.ng (RowsLe q.ng (gRow q.G) (gRow q.G) ∧ EqI q.a q.a (EqI q.fl q.fl (EqB q.nu q.nu (EqB q.de q.de (EqI q.top q.top (RowsLe 5 opsRow opsRow ∧ EqN q.nw q.nw (RowsLe q.nw (qRow q.C) (qRow q.C) ∧ decide (valF x (q.C (Int.toNat i) 0) 0 = q.C (Int.toNat i) 2) = c (i + 1) ∧ EqI (i + 1) (i + 1) (EqI (lo i) (lo (i + 1)) (EqI (Int.ofNat q.nw) (Int.ofNat q.nw) (decide (valF x (q.C (Int.toNat i) 0) 0 = q.C (Int.toNat i) 2) = p (i + 1) ∧ EqI (hi i) (hi (i + 1)) Q)))))))))))))))))))))))) (Asks (inR .i64 (i + 1)) (EqN (n i) (n (i + 1)) ((∀ (i_1 : Nat), i_1 < n i → K i i_1 = K (i + 1) i_1) ∧ EqI x.t x.t (EqI x.s x.s (EqI x.v x.v (EqI x.w x.w (EqI x.o x.o (EqI x.p x.p (EqI x.d x.d (EqI x.l x.l (EqI x.h x.h (EqI x.b x.b (EqN q.nw q.nw (RowsLe q.nw (qRow q.C) (qRow q.C) ∧ EqN q.ng q.ng (RowsLe q.ng (gRow q.G) (gRow q.G) ∧ EqI q.a q.a (EqI q.fl q.fl (EqB q.nu q.nu (EqB q.de q.de (EqI q.top q.top (RowsLe 5
 opsRow opsRow ∧ EqN q.nw q.nw (RowsLe q.nw (qRow q.C) (qRow q.C) ∧ decide (valF x (q.C (Int.toNat i) 0) 0 = q.C (Int.toNat i) 2) = c (i + 1) ∧ EqI (i + 1) (i + 1) zz3)))))))))))))))))))))) (Cond (p i) (Asks (inR .i64 (i + 1)) (EqN (n i) (n (i + 1)) ((∀ (i_1 : Nat), i_1 < n i → K i i_1 = K (i + 1) i_1) ∧ EqI x.t x.t (EqI x.s x.s (EqI x.v x.v (EqI x.w x.w (EqI x.o x.o (EqI x.p x.p (EqI x.d x.d (EqI x.l x.l (EqI x.h x.h (EqI x.b x.b (EqN q.nw q.nw (RowsLe q.nw (qRow q.C) (qRow q.C) ∧ EqN q.ng q.ng (RowsLe q.ng (gRow q.G) (gRow q.G) ∧ EqI q.a q.a (EqI q.fl q.fl (EqB q.nu q.nu (EqB q.de q.de (EqI q.top q.top (RowsLe 5 opsRow opsRow ∧ EqN q.nw q.nw (RowsLe q.nw (qRow q.C) (qRow q.C) ∧ false = c (i + 1) ∧ EqI (i + 1) (i + 1) (EqI (lo i) (lo (i + 1)) (EqI (Int.ofNat q.nw) (Int.ofNat q.nw) (decide (valF x (q.C (Int.toNat i) 0) 0 = q.C (Int.toNat i) 2) = p (i + 1) ∧ EqI (hi i) (hi (i + 1))
 Q)))))))))))))))))))))))) zz1)))) (Cond (decide (q.C (Int.toNat i) 1 = 2)) (Asks (decide (q.C (Int.toNat i) 1 = q.C (Int.toNat i) 1)) (Asks (decide (q.C (Int.toNat i) 2 = q.C (Int.toNat i) 2)) (Cond (c i) (Cond (p i) (Asks (inR .i64 (i + 1)) (EqN (n i) (n (i + 1)) ((∀ (i_1 : Nat), i_1 < n i → K i i_1 = K (i + 1) i_1) ∧ EqI x.t x.t (EqI x.s x.s (EqI x.v x.v (EqI x.w x.w (EqI x.o x.o (EqI x.p x.p (EqI x.d x.d (EqI x.l x.l (EqI x.h x.h (EqI x.b x.b (EqN q.nw q.nw (RowsLe q.nw (qRow q.C) (qRow q.C) ∧ EqN q.ng q.ng (RowsLe q.ng (gRow q.G) (gRow q.G) ∧ EqI q.a q.a (EqI q.fl q.fl (EqB q.nu q.nu (EqB q.de q.de (EqI q.top q.top (RowsLe 5 opsRow opsRow ∧ EqN q.nw q.nw (RowsLe q.nw (qRow q.C) (qRow q.C) ∧ (!decide (valF x (q.C (Int.toNat i) 0) 0 = q.C (Int.toNat i) 2)) = c (i + 1) ∧ EqI (i + 1) (i + 1) zz4))))))))))))))))))))) (Asks (inR .i64 (i + 1)) (EqN (n i) (n (i + 1)) ((∀ (i_1 : Nat), i_1 < n
 i → K i i_1 = K (i + 1) i_1) ∧ EqI x.t x.t (EqI x.s x.s (EqI x.v x.v (EqI x.w x.w (EqI x.o x.o (EqI x.p x.p (EqI x.d x.d (EqI x.l x.l (EqI x.h x.h (EqI x.b x.b (EqN q.nw q.nw (RowsLe q.nw (qRow q.C) (qRow q.C) ∧ EqN q.ng q.ng (RowsLe q.ng (gRow q.G) (gRow q.G) ∧ EqI q.a q.a (EqI q.fl q.fl (EqB q.nu q.nu (EqB q.de q.de (EqI q.top q.top (RowsLe 5 opsRow opsRow ∧ EqN q.nw q.nw (RowsLe q.nw (qRow q.C) (qRow q.C) ∧ (!decide (valF x (q.C (Int.toNat i) 0) 0 = q.C (Int.toNat i) 2)) = c (i + 1) ∧ EqI (i + 1) (i + 1) zz3)))))))))))))))))))))) (Cond (p i) (Asks (inR .i64 (i + 1)) (EqN (n i) (n (i + 1)) ((∀ (i_1 : Nat), i_1 < n i → K i i_1 = K (i + 1) i_1) ∧ EqI x.t x.t (EqI x.s x.s (EqI x.v x.v (EqI x.w x.w (EqI x.o x.o (EqI x.p x.p (EqI x.d x.d (EqI x.l x.l (EqI x.h x.h (EqI x.b x.b (EqN q.nw q.nw (RowsLe q.nw (qRow q.C) (qRow q.C) ∧ EqN q.ng q.ng (RowsLe q.ng (gRow q.G) (gRow q.G) ∧ EqI q.a q.a
 (EqI q.fl q.fl (EqB q.nu q.nu (EqB q.de q.de (EqI q.top q.top (RowsLe 5 opsRow opsRow ∧ EqN q.nw q.nw (RowsLe q.nw (qRow q.C) (qRow q.C) ∧ false = c (i + 1) ∧ EqI (i + 1) (i + 1) zz4))))))))))))))))))))) zz1)))) (Cond (decide (q.C (Int.toNat i) 1 = 3)) (Asks (decide (q.C (Int.toNat i) 1 = q.C (Int.toNat i) 1)) (Asks (decide (q.C (Int.toNat i) 2 = q.C (Int.toNat i) 2)) (Cond (c i) (Cond (p i) (Asks (inR .i64 (i + 1)) (EqN (n i) (n (i + 1)) ((∀ (i_1 : Nat), i_1 < n i → K i i_1 = K (i + 1) i_1) ∧ EqI x.t x.t (EqI x.s x.s (EqI x.v x.v (EqI x.w x.w (EqI x.o x.o (EqI x.p x.p (EqI x.d x.d (EqI x.l x.l (EqI x.h x.h (EqI x.b x.b (EqN q.nw q.nw (RowsLe q.nw (qRow q.C) (qRow q.C) ∧ EqN q.ng q.ng (RowsLe q.ng (gRow q.G) (gRow q.G) ∧ EqI q.a q.a (EqI q.fl q.fl (EqB q.nu q.nu (EqB q.de q.de (EqI q.top q.top (RowsLe 5 opsRow opsRow ∧ EqN q.nw q.nw (RowsLe q.nw (qRow q.C) (qRow q.C) ∧ decide (valF x
 (q.C (Int.toNat i) 0) 0 < q.C (Int.toNat i) 2) = c (i + 1) ∧ EqI (i + 1) (i + 1) (EqI (lo i) (lo (i + 1)) (EqI (Int.ofNat q.nw) (Int.ofNat q.nw) (decide (valF x (q.C (Int.toNat i) 0) 0 < q.C (Int.toNat i) 2) = p (i + 1) ∧ EqI (hi i) (hi (i + 1)) Q)))))))))))))))))))))))) (Asks (inR .i64 (i + 1)) (EqN (n i) (n (i + 1)) ((∀ (i_1 : Nat), i_1 < n i → K i i_1 = K (i + 1) i_1) ∧ EqI x.t x.t (EqI x.s x.s (EqI x.v x.v (EqI x.w x.w (EqI x.o x.o (EqI x.p x.p (EqI x.d x.d (EqI x.l x.l (EqI x.h x.h (EqI x.b x.b (EqN q.nw q.nw (RowsLe q.nw (qRow q.C) (qRow q.C) ∧ EqN q.ng q.ng (RowsLe q.ng (gRow q.G) (gRow q.G) ∧ EqI q.a q.a (EqI q.fl q.fl (EqB q.nu q.nu (EqB q.de q.de (EqI q.top q.top (RowsLe 5 opsRow opsRow ∧ EqN q.nw q.nw (RowsLe q.nw (qRow q.C) (qRow q.C) ∧ decide (valF x (q.C (Int.toNat i) 0) 0 < q.C (Int.toNat i) 2) = c (i + 1) ∧ EqI (i + 1) (i + 1) zz3)))))))))))))))))))))) (Cond (p i) (Asks
 (inR .i64 (i + 1)) (EqN (n i) (n (i + 1)) ((∀ (i_1 : Nat), i_1 < n i → K i i_1 = K (i + 1) i_1) ∧ EqI x.t x.t (EqI x.s x.s (EqI x.v x.v (EqI x.w x.w (EqI x.o x.o (EqI x.p x.p (EqI x.d x.d (EqI x.l x.l (EqI x.h x.h (EqI x.b x.b (EqN q.nw q.nw (RowsLe q.nw (qRow q.C) (qRow q.C) ∧ EqN q.ng q.ng (RowsLe q.ng (gRow q.G) (gRow q.G) ∧ EqI q.a q.a (EqI q.fl q.fl (EqB q.nu q.nu (EqB q.de q.de (EqI q.top q.top (RowsLe 5 opsRow opsRow ∧ EqN q.nw q.nw (RowsLe q.nw (qRow q.C) (qRow q.C) ∧ false = c (i + 1) ∧ EqI (i + 1) (i + 1) (EqI (lo i) (lo (i + 1)) (EqI (Int.ofNat q.nw) (Int.ofNat q.nw) (decide (valF x (q.C (Int.toNat i) 0) 0 < q.C (Int.toNat i) 2) = p (i + 1) ∧ EqI (hi i) (hi (i + 1)) Q)))))))))))))))))))))))) zz1)))) (Cond (decide (q.C (Int.toNat i) 1 = 4)) (Asks (decide (q.C (Int.toNat i) 1 = q.C (Int.toNat i) 1)) (Asks (decide (q.C (Int.toNat i) 2 = q.C (Int.toNat i) 2)) (Cond (c i) (Cond (p
 i) (Asks (inR .i64 (i + 1)) (EqN (n i) (n (i + 1)) ((∀ (i_1 : Nat), i_1 < n i → K i i_1 = K (i + 1) i_1) ∧ EqI x.t x.t (EqI x.s x.s (EqI x.v x.v (EqI x.w x.w (EqI x.o x.o (EqI x.p x.p (EqI x.d x.d (EqI x.l x.l (EqI x.h x.h (EqI x.b x.b (EqN q.nw q.nw (RowsLe q.nw (qRow q.C) (qRow q.C) ∧ EqN q.ng q.ng (RowsLe q.ng (gRow q.G) (gRow q.G) ∧ EqI q.a q.a (EqI q.fl q.fl (EqB q.nu q.nu (EqB q.de q.de (EqI q.top q.top (RowsLe 5 opsRow opsRow ∧ EqN q.nw q.nw (RowsLe q.nw (qRow q.C) (qRow q.C) ∧ decide (valF x (q.C (Int.toNat i) 0) 0 ≥ q.C (Int.toNat i) 2) = c (i + 1) ∧ EqI (i + 1) (i + 1) zz5))))))))))))))))))))) (Asks (inR .i64 (i + 1)) (EqN (n i) (n (i + 1)) ((∀ (i_1 : Nat), i_1 < n i → K i i_1 = K (i + 1) i_1) ∧ EqI x.t x.t (EqI x.s x.s (EqI x.v x.v (EqI x.w x.w (EqI x.o x.o (EqI x.p x.p (EqI x.d x.d (EqI x.l x.l (EqI x.h x.h (EqI x.b x.b (EqN q.nw q.nw (RowsLe q.nw (qRow q.C) (qRow q.C) ∧ EqN
 q.ng q.ng (RowsLe q.ng (gRow q.G) (gRow q.G) ∧ EqI q.a q.a (EqI q.fl q.fl (EqB q.nu q.nu (EqB q.de q.de (EqI q.top q.top (RowsLe 5 opsRow opsRow ∧ EqN q.nw q.nw (RowsLe q.nw (qRow q.C) (qRow q.C) ∧ decide (valF x (q.C (Int.toNat i) 0) 0 ≥ q.C (Int.toNat i) 2) = c (i + 1) ∧ EqI (i + 1) (i + 1) zz3)))))))))))))))))))))) (Cond (p i) (Asks (inR .i64 (i + 1)) (EqN (n i) (n (i + 1)) ((∀ (i_1 : Nat), i_1 < n i → K i i_1 = K (i + 1) i_1) ∧ EqI x.t x.t (EqI x.s x.s (EqI x.v x.v (EqI x.w x.w (EqI x.o x.o (EqI x.p x.p (EqI x.d x.d (EqI x.l x.l (EqI x.h x.h (EqI x.b x.b (EqN q.nw q.nw (RowsLe q.nw (qRow q.C) (qRow q.C) ∧ EqN q.ng q.ng (RowsLe q.ng (gRow q.G) (gRow q.G) ∧ EqI q.a q.a (EqI q.fl q.fl (EqB q.nu q.nu (EqB q.de q.de (EqI q.top q.top (RowsLe 5 opsRow opsRow ∧ EqN q.nw q.nw (RowsLe q.nw (qRow q.C) (qRow q.C) ∧ false = c (i + 1) ∧ EqI (i + 1) (i + 1) zz5))))))))))))))))))))) zz1))))
 False))))) (Cond (decide (q.C (Int.toNat i) 1 = 1)) (Asks (inR .i64 (i + 1)) (EqN (n i) (n (i + 1)) ((∀ (i_1 : Nat), i_1 < n i → K i i_1 = K (i + 1) i_1) ∧ EqI x.t x.t (EqI x.s x.s (EqI x.v x.v (EqI x.w x.w (EqI x.o x.o (EqI x.p x.p (EqI x.d x.d (EqI x.l x.l (EqI x.h x.h (EqI x.b x.b (EqN q.nw q.nw (RowsLe q.nw (qRow q.C) (qRow q.C) ∧ EqN q.ng q.ng (RowsLe q.ng (gRow q.G) (gRow q.G) ∧ EqI q.a q.a (EqI q.fl q.fl (EqB q.nu q.nu (EqB q.de q.de (EqI q.top q.top (RowsLe 5 opsRow opsRow ∧ EqN q.nw q.nw (RowsLe q.nw (qRow q.C) (qRow q.C) ∧ c i = c (i + 1) ∧ EqI (i + 1) (i + 1) (EqI (if q.C (Int.toNat i) 2 > lo i then q.C (Int.toNat i) 2 else lo i) (lo (i + 1)) (EqI (Int.ofNat q.nw) (Int.ofNat q.nw) (p i = p (i + 1) ∧ EqI (if q.C (Int.toNat i) 2 < hi i then q.C (Int.toNat i) 2 else hi i) (hi (i + 1)) Q)))))))))))))))))))))))) (Cond (decide (q.C (Int.toNat i) 1 = 2)) (Cond (isetIn (q.C (Int.toNat
 i) 2) (K i) (n i)) (Asks (inR .i64 (i + 1)) (EqN (n i) (n (i + 1)) ((∀ (i_1 : Nat), i_1 < n i → K i i_1 = K (i + 1) i_1) ∧ EqI x.t x.t zz2))) (Asks (inR .i64 (i + 1)) (EqN (n i + 1) (n (i + 1)) ((∀ (i_1 : Nat), i_1 < n i + 1 → isetSnoc (n i) (K i) (q.C (Int.toNat i) 2) i_1 = K (i + 1) i_1) ∧ EqI x.t x.t zz2)))) (Cond (decide (q.C (Int.toNat i) 1 = 3)) (Asks (inR .i64 (q.C (Int.toNat i) 2 - 1)) (Asks (inR .i64 (i + 1)) (EqN (n i) (n (i + 1)) ((∀ (i_1 : Nat), i_1 < n i → K i i_1 = K (i + 1) i_1) ∧ EqI x.t x.t (EqI x.s x.s (EqI x.v x.v (EqI x.w x.w (EqI x.o x.o (EqI x.p x.p (EqI x.d x.d (EqI x.l x.l (EqI x.h x.h (EqI x.b x.b (EqN q.nw q.nw (RowsLe q.nw (qRow q.C) (qRow q.C) ∧ EqN q.ng q.ng (RowsLe q.ng (gRow q.G) (gRow q.G) ∧ EqI q.a q.a (EqI q.fl q.fl (EqB q.nu q.nu (EqB q.de q.de (EqI q.top q.top (RowsLe 5 opsRow opsRow ∧ EqN q.nw q.nw (RowsLe q.nw (qRow q.C) (qRow q.C) ∧ c i = c (i + 1)
 ∧ EqI (i + 1) (i + 1) (EqI (lo i) (lo (i + 1)) (EqI (Int.ofNat q.nw) (Int.ofNat q.nw) (p i = p (i + 1) ∧ EqI (if q.C (Int.toNat i) 2 - 1 < hi i then q.C (Int.toNat i) 2 - 1 else hi i) (hi (i + 1)) Q))))))))))))))))))))))))) (Cond (decide (q.C (Int.toNat i) 1 = 4)) (Asks (inR .i64 (i + 1)) (EqN (n i) (n (i + 1)) ((∀ (i_1 : Nat), i_1 < n i → K i i_1 = K (i + 1) i_1) ∧ EqI x.t x.t (EqI x.s x.s (EqI x.v x.v (EqI x.w x.w (EqI x.o x.o (EqI x.p x.p (EqI x.d x.d (EqI x.l x.l (EqI x.h x.h (EqI x.b x.b (EqN q.nw q.nw (RowsLe q.nw (qRow q.C) (qRow q.C) ∧ EqN q.ng q.ng (RowsLe q.ng (gRow q.G) (gRow q.G) ∧ EqI q.a q.a (EqI q.fl q.fl (EqB q.nu q.nu (EqB q.de q.de (EqI q.top q.top (RowsLe 5 opsRow opsRow ∧ EqN q.nw q.nw (RowsLe q.nw (qRow q.C) (qRow q.C) ∧ c i = c (i + 1) ∧ EqI (i + 1) (i + 1) (EqI (if q.C (Int.toNat i) 2 > lo i then q.C (Int.toNat i) 2 else lo i) (lo (i + 1)) (EqI (Int.ofNat q.nw)
 (Int.ofNat q.nw) (p i = p (i + 1) ∧ EqI (hi i) (hi (i + 1)) Q)))))))))))))))))))))))) (Asks (inR .i64 (i + 1)) (EqN (n i) (n (i + 1)) ((∀ (i_1 : Nat), i_1 < n i → K i i_1 = K (i + 1) i_1) ∧ EqI x.t x.t zz2))))))))) (EqN (n i) nE ((∀ (i_1 : Nat), i_1 < n i → K i i_1 = KE i_1) ∧ EqI x.t x.t (EqI x.s x.s (EqI x.v x.v (EqI x.w x.w (EqI x.o x.o (EqI x.p x.p (EqI x.d x.d (EqI x.l x.l (EqI x.h x.h (EqI x.b x.b (RowsLe 5 opsRow opsRow ∧ c i = cE ∧ EqI (lo i) loE (p i = pE ∧ EqI (hi i) hiE True))))))))))))))) := by kernel_rfl
theorem mat_vc (q : Query) (x : Fact) (c p : Int → Bool) (lo hi : Int → Int) (n : Int → Nat) (K : Int → Nat → Int) (cE pE : Bool) (loE hiE : Int) (nE : Nat) (KE : Nat → Int) (left : List Nat → Int) (leftE : Int) (Q : AV → Prop) : (ko [kValidQ, kValid] [(7001, 21, s14 q x c p lo hi n K 0, e14 x cE pE loE hiE nE KE), (24002, 22, s14b x cE pE loE hiE nE KE left [], e14b x cE pE leftE)] 14 [.agg (queryAV q), .agg (factAV x)] Q) = (Asks (intsRows 3 q.nw (qRow q.C) && intsRows 1 q.ng (gRow q.G)) (Asks (qok { nw := q.nw, C := rowsX (qRow q.C), ng := q.ng, G := fun j => q.G j, a := q.a, fl := q.fl, nu := q.nu, de := q.de, top := q.top }) (Cond (!validF x) (ABlk.cells [AV.fslice 5 2 opsRow] Access.ro = ABlk.cells [AV.fslice 5 2 opsRow] Access.ro ∧ Q (AV.tup [AV.bool false, AV.bool false, AV.int .i64 190])) (LoopAt PP II false (loopOf II 14 7001) 21 (s14 q x c p lo hi n K 0) (e14 x cE pE loE hiE nE
 KE) ∧ EqN 0 (n 0) (EqI x.t x.t (EqI x.s x.s (EqI x.v x.v (EqI x.w x.w (EqI x.o x.o (EqI x.p x.p (EqI x.d x.d (EqI x.l x.l (EqI x.h x.h (EqI x.b x.b (EqN q.nw q.nw (RowsLe q.nw (qRow q.C) (qRow q.C) ∧ EqN q.ng q.ng (RowsLe q.ng (gRow q.G) (gRow q.G) ∧ EqI q.a q.a (EqI q.fl q.fl (EqB q.nu q.nu (EqB q.de q.de (EqI q.top q.top (RowsLe 5 opsRow opsRow ∧ EqN q.nw q.nw (RowsLe q.nw (qRow q.C) (qRow q.C) ∧ true = c 0 ∧ EqI x.l (lo 0) (EqI (Int.ofNat q.nw) (Int.ofNat q.nw) (true = p 0 ∧ EqI x.h (hi 0) (Asks (inR .i64 (hiE - loE)) (Asks (inR .i64 (hiE - loE + 1)) (LoopAt PP II false (loopOf II 14 24002) 22 (s14b x cE pE loE hiE nE KE left []) (e14b x cE pE leftE) ∧ EqN nE nE (([] : List Nat) = [] ∧ EqN nE nE ((∀ (i : Nat), i < nE → KE i = KE i) ∧ EqI x.t x.t (EqI x.s x.s (EqI x.v x.v (EqI x.w x.w (EqI x.o x.o (EqI x.p x.p (EqI x.d x.d (EqI x.l x.l (EqI x.h x.h (EqI x.b x.b (RowsLe 5 opsRow opsRow
 ∧ EqI (hiE - loE + 1) (left []) (cE = cE ∧ EqI loE loE (pE = pE ∧ EqI hiE hiE (Cond cE (Asks (inR .i64 (x.h - x.l)) (Asks (inR .i64 (x.h - x.l + 1)) (Cond pE (ABlk.cells [AV.fslice 5 2 opsRow] Access.ro = ABlk.cells [AV.fslice 5 2 opsRow] Access.ro ∧ Q (AV.tup [AV.bool (decide (leftE = x.h - x.l + 1)), AV.bool (decide (leftE > 0)), AV.int .i64 0])) (ABlk.cells [AV.fslice 5 2 opsRow] Access.ro = ABlk.cells [AV.fslice 5 2 opsRow] Access.ro ∧ Q (AV.tup [AV.bool (decide (leftE = x.h - x.l + 1)), AV.bool false, AV.int .i64 0]))))) (Cond pE (ABlk.cells [AV.fslice 5 2 opsRow] Access.ro = ABlk.cells [AV.fslice 5 2 opsRow] Access.ro ∧ Q (AV.tup [AV.bool false, AV.bool (decide (leftE > 0)), AV.int .i64 0])) (ABlk.cells [AV.fslice 5 2 opsRow] Access.ro = ABlk.cells [AV.fslice 5 2 opsRow] Access.ro ∧ Q (AV.tup [AV.bool false, AV.bool false, AV.int .i64
 0])))))))))))))))))))))))))))))))))))))))))))))) := by kernel_rfl
end Go.Sx
end
section
set_option maxRecDepth 1000000
namespace Go.Sx
open Go
def opF (o v N:Int): Bool:=decide ((o=1∧v=N)∨(o=2∧v≠N)∨(o=3∧v<N)∨(o=4∧N≤v))
structure MatNext (q:Query) (x:Fact) (j:Nat) (c c':Bool) (lo lo' hi hi':Int) (n n':Nat) (K K':Nat→Int): Prop where
 mc:c'=(c&&(decide (q.C j 0=8)||opF (q.C j 1) (valF x (q.C j 0) 0) (q.C j 2)))
 ml:lo'=if q.C j 0=8∧(q.C j 1=1∨q.C j 1=4) then (if q.C j 2>lo then q.C j 2 else lo) else lo
 mh:hi'=if q.C j 0=8∧q.C j 1=1 then (if q.C j 2<hi then q.C j 2 else hi) else if q.C j 0=8∧q.C j 1=3 then (if q.C j 2-1<hi then q.C j 2-1 else hi) else hi
 mn:n'=if q.C j 0=8∧q.C j 1=2∧isetIn (q.C j 2) K n=false then n+1 else n
 mK:K'=if q.C j 0=8∧q.C j 1=2∧isetIn (q.C j 2) K n=false then isetSnoc n K (q.C j 2) else K
theorem opsRows:RowsLe 5 opsRow opsRow:=RowsLe.same fun σ j=>by
 match j with
 | 0=>exact ⟨rfl,trivial,trivial⟩
 | 1=>exact ⟨rfl,⟨rfl,trivial,trivial⟩,trivial⟩
 | 2=>exact ⟨rfl,⟨rfl,trivial,trivial⟩,trivial⟩
 | 3=>exact ⟨rfl,⟨rfl,trivial,trivial⟩,trivial⟩
 | _+4=>exact ⟨rfl,⟨rfl,trivial,trivial⟩,trivial⟩
theorem mat_round (q:Query) (x:Fact) (c:Int→Bool) (lo hi:Int→Int) (n:Int→Nat) (K:Int→Nat→Int) (cE:Bool) (loE hiE:Int) (nE:Nat) (KE:Nat→Int) (i:Int) (j:Nat) (hij:i=(j:Int)) (hn:q.nw≤6) (hj:j<q.nw)
  (h8:1≤q.C j 1∧q.C j 1≤4) (hN : -1≤q.C j 2∧q.C j 2≤4398046511104) (hm:MatNext q x j (c i) (c (i+1)) (lo i) (lo (i+1)) (hi i) (hi (i+1)) (n i) (n (i+1)) (K i) (K (i+1))) (Q:Prop) (hQ:Q):
  kr [kVal39] [] 14 7001 21 (s14 q x c c lo hi n K) (fun _=>e14 x cE cE loE hiE nE KE) (fun i=>i+1) Q i:=by
 rw [mat_step]
 have e1:Int.toNat i=j:=by omega
 have en:Int.ofNat q.nw=(q.nw:Int):=rfl
 rw [e1]
 obtain ⟨mc,ml,mh,mn,mK⟩:=hm
 have hr:(decide (0≤i)&&decide (i<Int.ofNat q.nw))=true:=by simp only [Bool.and_eq_true,decide_eq_true_eq];omega
 have hi1:inR .i64 (i+1)=true:=inR_small (by omega) (by omega)
 have hi2:inR .i64 (q.C j 2-1)=true:=inR_small (by omega) (by omega)
 have hlt:i<Int.ofNat q.nw:=by omega
 clear hij e1
 generalize hA:q.C j 0=A at*
 generalize hO:q.C j 1=o at*
 generalize hNN:q.C j 2=N at*
 generalize hV:valF x A 0=V at*
 have fin : ∀ (c' p':Bool) (lo' hi':Int) (n':Nat) (K':Nat→Int),c'=c (i+1)→p'=c (i+1)→lo'=lo (i+1)→hi'=hi (i+1)→n'=n (i+1)→K'=K (i+1)→
   Asks (inR .i64 (i+1)) (EqN n' (n (i+1)) ((∀ a:Nat,a<n'→K' a=K (i+1) a)∧EqI x.t x.t (EqI x.s x.s (EqI x.v x.v (EqI x.w x.w (EqI x.o x.o (EqI x.p x.p (EqI x.d x.d (EqI x.l x.l (EqI x.h x.h (EqI x.b x.b (EqN q.nw q.nw (RowsLe q.nw (qRow q.C) (qRow q.C)∧EqN q.ng q.ng (RowsLe q.ng (gRow q.G) (gRow q.G)∧EqI q.a q.a (EqI q.fl q.fl (EqB q.nu q.nu (EqB q.de q.de (EqI q.top q.top (RowsLe 5 opsRow opsRow∧EqN q.nw q.nw (RowsLe q.nw (qRow q.C) (qRow q.C)∧c'=c (i+1)∧EqI (i+1) (i+1) (EqI lo' (lo (i+1)) (EqI (Int.ofNat q.nw) (Int.ofNat q.nw) (p'=c (i+1)∧EqI hi' (hi (i+1)) Q))))))))))))))))))))))):=by
  intro c' p' lo' hi' n' K' a1 a2 a3 a4 a5 a6
  exact Asks.mk hi1 (EqN.mk a5 ⟨fun a _=>by rw [a6],EqI.mk rfl (EqI.mk rfl (EqI.mk rfl (EqI.mk rfl (EqI.mk rfl (EqI.mk rfl (EqI.mk rfl (EqI.mk rfl (EqI.mk rfl (EqI.mk rfl (EqN.mk rfl ⟨qRows _ _,EqN.mk rfl ⟨gRows _ _,EqI.mk rfl (EqI.mk rfl (EqB.mk rfl (EqB.mk rfl (EqI.mk rfl ⟨opsRows,EqN.mk rfl ⟨qRows _ _,a1,EqI.mk rfl (EqI.mk a3 (EqI.mk rfl ⟨a2,EqI.mk a4 hQ⟩))⟩⟩))))⟩⟩))))))))))⟩)
 refine Cond.mkP (fun _=>?_) fun h=>absurd hlt h
 refine Asks.mk' _ _ hr ?_
 refine Cond.mkN (fun h=>?_) fun h=>?_
 ·have h8' : ∀ {P:Prop},¬ (A=8∧P):=fun e=>h e.1
  rw [if_neg h8'] at ml
  rw [if_neg h8',if_neg h8'] at mh
  rw [if_neg h8'] at mn mK
  rw [decide_eq_false h,Bool.false_or] at mc
  have yes : ∀ b,opF o V N=b→c i=true→b=c (i+1):=fun b e1 e2=>by rw [mc,e1,e2];rfl
  have no:c i=false→false=c (i+1):=fun e=>by rw [mc,e];rfl
  have opx : ∀ (p:Prop) [Decidable p],((o=1∧V=N)∨(o=2∧V≠N)∨(o=3∧V<N)∨(o=4∧N≤V)↔p)→opF o V N=decide p:=fun p _ e=>decide_eq_decide.2 e
  refine Cond.mkP (fun e=>absurd e (by omega)) fun _=>?_
  refine Cond.mkP (fun e=>?_) fun e1=>?_
  ·refine Asks.mk' _ _ (decide_eq_true rfl) (Asks.mk' _ _ (decide_eq_true rfl) ?_)
   have hb:=opx (V=N) (by omega)
   exact Cond.mk (fun d=>Cond.mk (fun _=>fin _ _ _ _ _ _ (yes _ hb d) (yes _ hb d) ml.symm mh.symm mn.symm mK.symm) fun d'=>by rw [d] at d';cases d') fun d=>Cond.mk (fun d'=>by rw [d] at d';cases d') fun _=>fin _ _ _ _ _ _ (no d) (no d) ml.symm mh.symm mn.symm mK.symm
  refine Cond.mkP (fun e=>?_) fun e2=>?_
  ·refine Asks.mk' _ _ (decide_eq_true rfl) (Asks.mk' _ _ (decide_eq_true rfl) ?_)
   have hb:opF o V N=!decide (V=N):=by rw [opx (¬ V=N) (by omega),decide_not]
   exact Cond.mk (fun d=>Cond.mk (fun _=>fin _ _ _ _ _ _ (yes _ hb d) (yes _ hb d) ml.symm mh.symm mn.symm mK.symm) fun d'=>by rw [d] at d';cases d') fun d=>Cond.mk (fun d'=>by rw [d] at d';cases d') fun _=>fin _ _ _ _ _ _ (no d) (no d) ml.symm mh.symm mn.symm mK.symm
  refine Cond.mkP (fun e=>?_) fun e3=>?_
  ·refine Asks.mk' _ _ (decide_eq_true rfl) (Asks.mk' _ _ (decide_eq_true rfl) ?_)
   have hb:=opx (V<N) (by omega)
   exact Cond.mk (fun d=>Cond.mk (fun _=>fin _ _ _ _ _ _ (yes _ hb d) (yes _ hb d) ml.symm mh.symm mn.symm mK.symm) fun d'=>by rw [d] at d';cases d') fun d=>Cond.mk (fun d'=>by rw [d] at d';cases d') fun _=>fin _ _ _ _ _ _ (no d) (no d) ml.symm mh.symm mn.symm mK.symm
  refine Cond.mkP (fun e=>?_) fun e4=>absurd h8 (by omega)
  ·refine Asks.mk' _ _ (decide_eq_true rfl) (Asks.mk' _ _ (decide_eq_true rfl) ?_)
   have hb:=opx (V≥N) (by omega)
   exact Cond.mk (fun d=>Cond.mk (fun _=>fin _ _ _ _ _ _ (yes _ hb d) (yes _ hb d) ml.symm mh.symm mn.symm mK.symm) fun d'=>by rw [d] at d';cases d') fun d=>Cond.mk (fun d'=>by rw [d] at d';cases d') fun _=>fin _ _ _ _ _ _ (no d) (no d) ml.symm mh.symm mn.symm mK.symm
 ·have hc:c i=c (i+1):=by rw [mc,decide_eq_true h,Bool.true_or,Bool.and_true]
  refine Cond.mkP (fun e=>?_) fun e1=>?_
  ·rw [if_pos ⟨h,.inl e⟩] at ml
   rw [if_pos ⟨h,e⟩] at mh
   rw [if_neg (by omega)] at mn mK
   exact fin _ _ _ _ _ _ hc hc ml.symm mh.symm mn.symm mK.symm
  refine Cond.mkP (fun e=>?_) fun e2=>?_
  ·rw [if_neg (by omega)] at ml
   rw [if_neg (by omega),if_neg (by omega)] at mh
   refine Cond.mk (fun d=>?_) fun d=>?_
   ·rw [d] at mn mK
    rw [if_neg (fun z=>by cases z.2.2)] at mn mK
    exact fin _ _ _ _ _ _ hc hc ml.symm mh.symm mn.symm mK.symm
   ·rw [if_pos ⟨h,e,d⟩] at mn mK
    exact fin _ _ _ _ _ _ hc hc ml.symm mh.symm mn.symm mK.symm
  refine Cond.mkP (fun e=>?_) fun e3=>?_
  ·rw [if_neg (by omega)] at ml
   rw [if_neg (by omega),if_pos ⟨h,e⟩] at mh
   rw [if_neg (by omega)] at mn mK
   exact Asks.mk' _ _ hi2 (fin _ _ _ _ _ _ hc hc ml.symm mh.symm mn.symm mK.symm)
  refine Cond.mkP (fun e=>?_) fun e4=>absurd h8 (by omega)
  ·rw [if_pos ⟨h,.inr e⟩] at ml
   rw [if_neg (by omega),if_neg (by omega)] at mh
   rw [if_neg (by omega)] at mn mK
   exact fin _ _ _ _ _ _ hc hc ml.symm mh.symm mn.symm mK.symm
end Go.Sx
end
