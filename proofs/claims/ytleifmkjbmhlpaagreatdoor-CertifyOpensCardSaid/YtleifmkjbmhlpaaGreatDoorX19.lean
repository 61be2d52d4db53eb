/- CertifyOpens is proved, part 19. -/
import Derived.Test.YtleifmkjbmhlpaaGreatDoorX18
import Derived.RecoverIn
import Derived.TacticsInMore
set_option linter.unusedVariables false
set_option linter.unusedSimpArgs false
set_option linter.unusedSectionVars false
section
set_option maxRecDepth 1000000
namespace Go.Sx
open Go
def treeF (n:Nat) (F:Nat→Fact): Tree:=growT 20 n F
def rootR (n:Nat) (F:Nat→Fact): List UInt8×Int:=bif validsF n F then (bif Nat.beq n 0 then (rootF 0 [],0) else (rootF n (digF (topF (treeF n F))),0)) else ([],210)
def rootOk (n:Nat) (F:Nat→Fact): Bool:=Nat.beq n 0||(growOk 20 n&&factsOk n F)
theorem root16_ok {n:Nat} {F:Nat→Fact} (h:rootOk n F=true): CallGives PP II 16 [factsAV n F] HB (.ret (.tup [.str (rootR n F).1,.int .i64 (rootR n F).2]) HB):=by
 refine of_kh (ks:=[kValids,kGrow,kDig42,kRoot41]) (T:=[]) (fun σ=>⟨rfl,⟨rfl,rfl⟩,trivial⟩) ?_
 rw [root16_vc n F]
 have fA:factAt (fun i=>factAV (F i))=F:=rfl
 have e0:Int.ofNat n=(n:Int):=rfl
 have hn:n≤1000000∧(n≠0→growOk 20 n=true∧factsOk n F=true):=by
  simp only [rootOk,Bool.or_eq_true,Bool.and_eq_true] at h
  rcases h with h | h
  ·have:=Nat.eq_of_beq_eq_true h
   exact ⟨by omega,fun e=>absurd this e⟩
  ·have h1:=h.1
   simp only [growOk,Bool.and_eq_true] at h1
   have b:=Nat.le_of_ble_eq_true h1.2
   exact ⟨by omega,fun _=>h⟩
 rw [fA]
 refine Asks.mk (by rw [isFacts_facts,decide_eq_true hn.1];rfl) (Cond.mk (fun hv=>?_) fun hv=>Cond.mk (fun h0=>?_) fun h0=>?_)
 ·have hv:validsF n F=false:=by simpa using hv
  unfold rootR;rw [hv];rfl
 ·have hv:validsF n F=true:=by simpa using hv
  have h0:n=0:=by have:=of_decide_eq_true h0;omega
  subst h0
  unfold rootR;rw [hv];rfl
 ·have hv:validsF n F=true:=by simpa using hv
  have h0:n≠0:=by have:=of_decide_eq_false h0;omega
  obtain ⟨g1,g2⟩:=hn.2 h0
  have ok:=topF_ok 20 n F g1 g2
  have hb:Nat.beq n 0=false:=by
   cases hb:Nat.beq n 0 with
   | true=>exact absurd (Nat.eq_of_beq_eq_true hb) h0
   | false=>rfl
  refine Asks.mk (isFacts_facts _ _) (Asks.mk g1 (Asks.mk g2 (Asks.mk ((rfl:_=nodeOk (topF (growT 20 n F))).trans ok) (Asks.mk ?_ ?_))))
  ·have:okI (Int.ofNat n)=true:=by unfold okI;simp only [Bool.and_eq_true,decide_eq_true_eq];omega
   rw [this];rfl
  ·unfold rootR;rw [hv,hb];rfl
noncomputable def kRoot16:Known PP II:=Known.onHB 16
 (fun X args kn=>match args with
  | [.fslice n 10 f]=>X.assert (isFacts n f) (X.assert (rootOk n (factAt f)) (kn (.tup [.str (rootR n (factAt f)).1,.int .i64 (rootR n (factAt f)).2])))
  | _=>X.fail)
 fun X sem hX args kn h=>by
  split at h
  ·rename_i n f
   obtain ⟨e1,k1⟩:=hX.assert _ _ h
   obtain ⟨e2,k2⟩:=hX.assert _ _ k1
   exact ⟨_,k2,fun _=>rfl,fun _=>rfl,(root16_ok e2).argsLe ⟨isFacts_ok e1,trivial⟩⟩
  ·exact absurd h hX.fail
end Go.Sx
end
section
set_option maxRecDepth 1000000
namespace Go.Sx
open Go
open Go.Proofs.Tryz
theorem wf_fn (f:FuncId): (WF none).fn f=True:=rfl
theorem ta_nil (w:World): (Instr.typeAssert .nilIface 20 39 true).run PP w= .ok (.tuple #[.int .i64 0,.bool false]) w:=by kernel_rfl
theorem ta_err (u:Value) (w:World): (Instr.typeAssert (.iface 39 u) 20 39 true).run PP w= .ok (.tuple #[u,.bool true]) w:=by kernel_rfl
theorem catch_ret {n:Nat} {w w':World} {p:Addr} (h:(Instr.storeAt 4 (.pointer (some p)) (.bool true)).run PP w= .ok () w'):
  CallsDIn (WF none) n PP 92 #[.pointer (some p)] .returning w fun e u' w''=>e= .returned (.tuple #[])∧u'= .returning∧w''=w':=by
 refine callsDIn_of_wpSIn func92 rfl trivial fun c₀ cs hu=>?_
 apply wpSIn_seq
 apply wpSIn_region
 simp [wpOpsSIn,go_sem,recoverD,hu,ntmps92,Exit.thenS,wf_fn]
 apply wpSIn_seq
 apply wpSIn_seq
 apply wpSIn_region
 simp [wpOpsSIn,go_sem,recoverD,hu,ntmps92,Exit.thenS,wf_fn,ta_nil]
 apply wpSIn_seq
 apply wpSIn_region
 simp [wpOpsSIn,go_sem,recoverD,hu,ntmps92,Exit.thenS,wf_fn]
 refine wpSIn_cond (t:=false) (by simp [Act.eval,Array.replicate]) ?_
 simp only [Bool.false_eq_true,if_false]
 refine wpSIn_of_wpIn rfl (wpIn_skip ?_)
 simp only [Exit.thenS]
 apply wpSIn_region
 simp [wpOpsSIn,go_sem,recoverD,hu,ntmps92,Exit.thenS,wf_fn]
 simp [go_sem] at h
 simp only [h,Result.andThen_ok]
 cases c₀
 simp_all [bodyPostS,results,results92,go_sem]
theorem catch_pan {n:Nat} {w w':World} {p:Addr} {u:Value} (h:(Instr.storeAt 4 (.pointer (some p)) (.bool false)).run PP w= .ok () w'):
  CallsDIn (WF none) n PP 92 #[.pointer (some p)] (.panicking [{v:=.iface 39 u,recovered:=false}]) w fun e u' w''=>
   e= .returned (.tuple #[])∧u'= .panicking [{v:=.iface 39 u,recovered:=true}]∧w''=w':=by
 refine callsDIn_of_wpSIn func92 rfl trivial fun c₀ cs hu=>?_
 apply wpSIn_seq
 apply wpSIn_region
 simp [wpOpsSIn,go_sem,recoverD,hu,ntmps92,Exit.thenS,wf_fn]
 apply wpSIn_seq
 apply wpSIn_seq
 apply wpSIn_region
 simp [wpOpsSIn,go_sem,recoverD,hu,ntmps92,Exit.thenS,wf_fn,ta_err]
 apply wpSIn_seq
 apply wpSIn_region
 simp [wpOpsSIn,go_sem,recoverD,hu,ntmps92,Exit.thenS,wf_fn]
 refine wpSIn_cond (t:=false) (by simp [Act.eval,Array.replicate]) ?_
 simp only [Bool.false_eq_true,if_false]
 refine wpSIn_of_wpIn rfl (wpIn_skip ?_)
 simp only [Exit.thenS]
 apply wpSIn_region
 simp [wpOpsSIn,go_sem,recoverD,hu,ntmps92,Exit.thenS,wf_fn]
 simp [go_sem] at h
 simp only [h,Result.andThen_ok]
 cases c₀
 simp_all [bodyPostS,results,results92,go_sem]
def opAlloc:Oper:={dst:=some 2,op:=Op.alloc 4,type:=0,pos := "certify.go:24",after := #[],guard:=none}
theorem alloc_ok {c:Ctx} {ρ:Env} {H:AH} {w:World} (hr:Rel c ρ H w) (e:Operand→Value):
  ∃ w' ρ' b N,(execOp e opAlloc).run PP w= .ok (.value (.pointer (some ⟨b,0,none⟩))) w'∧Ext ρ ρ'∧ρ' H.n=some (b,N)∧Rel c ρ' (H.new (.cells [.bool false] (.ty 4))) w':=by
 have h:apop RI.prop II opAlloc (fun _=> .any) H (fun a H'=>a= .ptr H.n 0 0 0∧H'=H.new (.cells [.bool false] (.ty 4))):=by
  show (match (II.zero 4).bind AV.cells? with | some cs=>_ | none=>False)
  exact ⟨rfl,rfl⟩
 obtain ⟨a,H',⟨rfl,rfl⟩,h2⟩:=apop_ok RI.prop_ok hII h
 obtain ⟨v,w',ρ',e1,e2,e3,e4,_⟩:=h2 c ρ w e (fun _=>by simp only [VR]) hr
 simp only [VR] at e4
 obtain ⟨b,N,e4,rfl⟩:=e4
 exact ⟨w',ρ',b,N,by simpa using e1,e2,e4,e3⟩
theorem try_gives {g:FuncId} {first caps:List AV} {H:AH} {o out:CO} (hcall:CallGives PP II g (first++caps) (H.new (.cells [.bool false] (.ty 4))) o)
  (hret : ∀ c ρ w b N,ρ H.n=some (b,N)→match o with
   | .ret _ H2=>Rel c ρ H2 w→ ∃ w1 w2 v,(Instr.storeAt 4 (.pointer (some ⟨b,0,none⟩)) (.bool true)).run PP w= .ok () w1∧(Instr.storeAt 4 (.pointer (some ⟨b,0,none⟩)) (.bool true)).run PP w1= .ok () w2∧(Instr.loadAt 4 (.pointer (some ⟨b,0,none⟩))).run PP w2= .ok v w2∧out.post c ρ (.returned v) w2
   | .pan a H2=>(∃ x,a= .iface 39 x)∧(Rel c ρ H2 w→ ∃ w1 v,(Instr.storeAt 4 (.pointer (some ⟨b,0,none⟩)) (.bool false)).run PP w= .ok () w1∧(Instr.loadAt 4 (.pointer (some ⟨b,0,none⟩))).run PP w1= .ok v w1∧out.post c ρ (.returned v) w1)):
  CallGives PP II 52 [.fn g first caps] H out:=by
 intro c ρ w vs hG hv hr
 obtain ⟨fn,hf,hbody,hn,hrs,hname⟩:=hII.body 52 _ _ _ (rfl:II.body 52=some _)
 refine .inl ⟨hname _ _,?_⟩
 have goal:CallsIn (WF none) 0 PP 52 vs.toArray w (out.post c ρ):=?_
 ·exact callsIn_wide.1 goal
 simp only [VRs] at hv
 obtain ⟨u0,us,rfl,h0,rfl⟩:=hv
 simp only [VR] at h0
 obtain ⟨fs,cs,rfl,hfs,hcs⟩:=h0
 refine callsIn_of_wp_defers (F:=WF none) func52 rfl trivial ?_
 apply wpIn_seq
 apply wpIn_region
 obtain ⟨w1,ρ1,b,N,e1,e2,e3,e4⟩:=alloc_ok hr ({tmps := #[Value.func (Fn.func g) fs.toArray cs.toArray]++Array.replicate 5 undef,defers:=[]}: Act).eval
 show wpOpsIn (WF none) 0 PP #[opAlloc] _ [0] _ _
 refine wpOpsIn_run rfl rfl ⟨fun _ _=>trivial,?_⟩
 refine (congrArg (Oper.uponIn _ _ _ _ _ _ _) e1).mpr ?_
 simp only [Oper.uponIn_value,wpOpsIn,Exit.then]
 apply wpIn_seq
 apply wpIn_region
 have hro:(WF none).round=none:=rfl
 have hmf : ∀ (fn:Fn) (first cap:Array Value) (w:World),(Instr.makeFunc fn first cap).run PP w= .ok (.func fn first cap) w:=fun _ _ _ _=>rfl
 simp [wpOpsIn,Oper.wpIn,Oper.uponIn,opAlloc,hmf,hro,go_sem,ntmps52,wf_fn,Exit.then]
 apply wpIn_seq
 apply wpIn_region
 simp [wpOpsIn,Oper.wpIn,Oper.uponIn,opAlloc,hmf,hro,go_sem,ntmps52,wf_fn,Exit.then]
 have hcv:VRs ρ1 (first++caps) (fs++cs):=VRs.append (VRs.ext e2 _ _ hfs) (VRs.ext e2 _ _ hcs)
 have hx:=hcall c ρ1 w1 _ hG hcv e4
 have back : ∀ (v:Value) (w2:World),o.post c ρ1 (.returned v) w2→Code.wpIn (WF none) 0 PP ((Code.region 3 #[{dst:=none,op:=Op.store 4 (Operand.tmp 2) (Operand.const (Value.bool true)),type:=0,pos := "certify.go:33",after := #[],guard:=none}] false).seq Code.ret)
   (bodyPostDIn (WF none) 0 PP f52 (out.post c ρ)) (Act.mk (#[Value.func (Fn.func g) fs.toArray cs.toArray]++((((Array.replicate 5 undef).setIfInBounds 1 (Value.pointer (some {block:=b,off:=0}))).setIfInBounds 2 (Value.func (Fn.func 92) #[] #[Value.pointer (some {block:=b,off:=0})])).setIfInBounds 3 (Value.func (Fn.func g) fs.toArray cs.toArray)).setIfInBounds 4 v) [{target:=Target.fn (Fn.func 92) #[Value.pointer (some {block:=b,off:=0})],args := #[]}]) w2:=by
  intro v w2 hp
  cases o with
  | pan a H2=>exact hp.elim
  | ret a H2=>
   obtain ⟨ρ2,hx2,hr2,hv2⟩:=hp
   obtain ⟨w3,w4,r,s1,s2,s3,s4⟩:=hret c ρ2 w2 b N (hx2 _ _ e3) hr2
   apply wpIn_seq
   apply wpIn_region
   have s1':=s1
   simp [go_sem] at s1'
   simp [wpOpsIn,Oper.wpIn,Oper.uponIn,hro,go_sem,wf_fn,Exit.then,s1']
   refine wpIn_ret ?_
   simp only [bodyPostDIn]
   refine leavesIn_cons (f:=92) (args := #[.pointer (some ⟨b,0,none⟩)]) (by simp) (fun h=>by cases h) (by simp [go_sem]) (fun _ _=>trivial) ?_
   refine (catch_ret s2).mono ?_
   rintro e u' w'' ⟨rfl,rfl,rfl⟩
   have s3':=s3
   simp [go_sem] at s3'
   refine ⟨r,?_,?_⟩
   ·simp [results,results52,go_sem,s3']
   ·exact (fun hp=>by
     cases out with
     | ret a H=>obtain ⟨ρ',k1,k2,k3⟩:=hp;exact ⟨ρ',(e2.trans hx2).trans k1,k2,k3⟩
     | pan a H=>exact hp.elim) s4
 have away : ∀ (ch:List PanicEntry) (w2:World),o.post c ρ1 (.panicked ch) w2→bodyPostDIn (WF none) 0 PP f52 (out.post c ρ) (Exit.panic ch)
   (Act.mk (#[Value.func (Fn.func g) fs.toArray cs.toArray]++(((Array.replicate 5 undef).setIfInBounds 1 (Value.pointer (some {block:=b,off:=0}))).setIfInBounds 2 (Value.func (Fn.func 92) #[] #[Value.pointer (some {block:=b,off:=0})])).setIfInBounds 3 (Value.func (Fn.func g) fs.toArray cs.toArray)) [{target:=Target.fn (Fn.func 92) #[Value.pointer (some {block:=b,off:=0})],args := #[]}]) w2:=by
  intro ch w2 hp
  cases o with
  | ret a H2=>exact hp.elim
  | pan a H2=>
   obtain ⟨ρ2,u,rfl,hx2,hr2,hv2⟩:=hp
   obtain ⟨⟨x,rfl⟩,hq⟩:=hret c ρ2 w2 b N (hx2 _ _ e3)
   obtain ⟨w3,r,s1,s3,s4⟩:=hq hr2
   simp only [VR] at hv2
   obtain ⟨uu,rfl,_⟩:=hv2
   simp only [bodyPostDIn]
   refine leavesIn_cons (f:=92) (args := #[.pointer (some ⟨b,0,none⟩)]) (by simp) (fun h=>by cases h) (by simp [go_sem]) (fun _ _=>trivial) ?_
   refine (catch_pan s1).mono ?_
   rintro e u' w'' ⟨rfl,rfl,rfl⟩
   have s3':=s3
   simp [go_sem] at s3'
   simp only [settle]
   refine ⟨r,?_,?_⟩
   ·simp [results,results52,go_sem,s3']
   ·exact (fun hp=>by
     cases out with
     | ret a H=>obtain ⟨ρ',k1,k2,k3⟩:=hp;exact ⟨ρ',(e2.trans hx2).trans k1,k2,k3⟩
     | pan a H=>exact hp.elim) s4
 rcases hx with ⟨he,hc⟩ | ⟨v,w2,he,hp⟩
 ·rw [he]
  refine ⟨rfl,CallsIn.mono (F:=WF none) (callsIn_wide.2 hc) fun e w' hpost=>?_⟩
  cases e with
  | returned v=>exact back v w' hpost
  | panicked ch=>exact away ch w' hpost
  | outgrown=>cases o<;>exact hpost.elim
 ·rw [he]
  exact back v w2 hp
noncomputable def trySpec (ks:List (Known PP II)) {R:Type} (X:RI R): Spec R:=fun args H kn _=>match args with
 | [.fn g first caps]=>callOf X II (known X ks) (run X II (known X ks) (noLoops R) (drawn3 X II bigN [54,55]) 1000) g (first++caps) (H.new (.cells [.bool false] (.ty 4)))
   (fun _ H2=>astore X II 4 (.ptr H.n 0 0 0) (.bool true) H2 fun H3=>astore X II 4 (.ptr H.n 0 0 0) (.bool true) H3 fun H4=>aload X II 4 H4 (.ptr H.n 0 0 0) fun r=>kn r H4)
   (fun v H2=>match v with
    | .iface t _=>bif Nat.beq t 39 then astore X II 4 (.ptr H.n 0 0 0) (.bool false) H2 fun H3=>aload X II 4 H3 (.ptr H.n 0 0 0) fun r=>kn r H3 else X.fail
    | _=>X.fail)
 | _=>X.fail
noncomputable def kTry (ks:List (Known PP II)): Known PP II where
 f:=52
 spec X:=trySpec ks X
 ok {R} X sem hX args H kn kp h:=by
  unfold trySpec at h
  split at h
  ·rename_i g first caps
   obtain ⟨o,h1,h2⟩:=callOf_ok hX hII (known_ok hX ks) (run_ok hX hII (known_ok hX ks) (noLoops_ok PP II sem) (drawn3_ok hX hII bigN [54,55]) 1000) g _ _ _ _ h
   have hptr : ∀ (ρ:Env) b N,ρ H.n=some (b,N)→VR ρ (.ptr H.n 0 0 0) (.pointer (some ⟨b,0,none⟩)):=fun ρ b N e=>by
    simp only [VR];exact ⟨b,N,e,by simp⟩
   cases o with
   | ret a H2=>
    obtain ⟨H3,h3,k3⟩:=astore_ok hX hII (P:=PP) h1
    obtain ⟨H4,h4,k4⟩:=astore_ok hX hII (P:=PP) h3
    obtain ⟨r,h5,k5⟩:=aload_ok hX hII (P:=PP) h4
    refine ⟨.ret r H4,h5,try_gives h2 fun c ρ w b N e hr=>?_⟩
    obtain ⟨w1,a1,a2⟩:=k3 c ρ w _ (.bool true) (hptr ρ b N e) (by simp only [VR]) hr
    obtain ⟨w2,b1,b2⟩:=k4 c ρ w1 _ (.bool true) (hptr ρ b N e) (by simp only [VR]) a2
    obtain ⟨v,c1,c2⟩:=k5 c ρ w2 _ (hptr ρ b N e) b2
    exact ⟨w1,w2,v,a1,b1,c1,ρ,Ext.refl ρ,b2,c2⟩
   | pan a H2=>
    simp only [CO.sem] at h1
    split at h1
    ·rename_i t x
     cases ht:Nat.beq t 39 with
     | false=>rw [ht] at h1;exact absurd h1 hX.fail
     | true=>
      rw [ht,cond_true] at h1
      have ht:=Nat.eq_of_beq_eq_true ht
      subst ht
      obtain ⟨H3,h3,k3⟩:=astore_ok hX hII (P:=PP) h1
      obtain ⟨r,h5,k5⟩:=aload_ok hX hII (P:=PP) h3
      refine ⟨.ret r H3,h5,try_gives h2 fun c ρ w b N e=>⟨⟨x,rfl⟩,fun hr=>?_⟩⟩
      obtain ⟨w1,a1,a2⟩:=k3 c ρ w _ (.bool false) (hptr ρ b N e) (by simp only [VR]) hr
      obtain ⟨v,c1,c2⟩:=k5 c ρ w1 _ (hptr ρ b N e) a2
      exact ⟨w1,v,a1,c1,ρ,Ext.refl ρ,a2,c2⟩
    ·exact absurd h1 hX.fail
  ·exact absurd h hX.fail
end Go.Sx
end
