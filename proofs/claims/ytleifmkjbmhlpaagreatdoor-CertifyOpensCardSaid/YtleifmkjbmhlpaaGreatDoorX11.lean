/- CertifyOpens is proved, part 11. -/
import Derived.Test.YtleifmkjbmhlpaaGreatDoorX08
set_option linter.unusedVariables false
set_option linter.unusedSimpArgs false
set_option linter.unusedSectionVars false
section
namespace Go.Sx
open Go
def Tr.ofList {α:Type}: List (Nat×α)→Tr α
 | []=> .e
 | (i,a)::l=>(Tr.ofList l).set i a
theorem Tr.mem_of_get {α:Type}: ∀ {l:List (Nat×α)} {i:Nat} {a:α},(Tr.ofList l).get i=some a→(i,a)∈l
 | [],i,a,h=>by simp [Tr.ofList,Tr.get_e] at h
 | (j,b)::l,i,a,h=>by
  simp only [Tr.ofList,Tr.get_set] at h
  by_cases e:i=j
  ·subst e;rw [if_pos rfl] at h;cases h;exact List.mem_cons_self
  ·rw [if_neg e] at h;exact List.mem_cons_of_mem _ (Tr.mem_of_get h)
def AllL {α:Type} (p:α→Prop): List α→Prop
 | []=>True
 | x::xs=>p x∧AllL p xs
theorem AllL.mem {α:Type} {p:α→Prop}: ∀ {l:List α},AllL p l→ ∀ x∈l,p x
 | _::_,⟨h1,h2⟩,x,hx=>(List.mem_cons.1 hx).elim (fun e=>e▸h1) (fun e=>AllL.mem h2 x e)
theorem AllL.nil' {α:Type} (p:α→Prop): AllL p []:=trivial
theorem AllL.cons' {α:Type} (p:α→Prop) (x:α) (xs:List α) (h1:p x) (h2:AllL p xs): AllL p (x::xs):=⟨h1,h2⟩
structure Tabs where
 und:Tr TypeDesc
 size:Tr Nat
 bytes:Tr Nat
 zero:Tr AV
 body:Tr (Code×Nat×List ResultVar)
 eqg:Tr Unit
 fields:Tr (List (TypeId×Nat))
 held:Tr Unit
 G:Nat
def Tabs.info (T:Tabs) (wr:Bool): Info where
 und t:=T.und.get t
 size t:=T.size.get t
 bytes t:=T.bytes.get t
 zero t:=T.zero.get t
 body f:=T.body.get f
 eqg t:=match T.eqg.get t with | some _=>true | none=>false
 fields t:=T.fields.get t
 held t:=match T.held.get t with | some _=>true | none=>false
 G:=T.G
 wr:=wr
def pUnd (P:Program) (x:Nat×TypeDesc): Prop:=P.underlying x.1=some x.2
def pSize (P:Program) (x:Nat×Nat): Prop := ∃ i,P.info? x.1=some i∧i.size=x.2
def pBytes (P:Program) (x:Nat×Nat): Prop := ∃ i,P.info? x.1=some i∧i.bytes=x.2
def pZero (P:Program) (x:Nat×AV): Prop := ∃ i z,P.info? x.1=some i∧i.zero=some z∧ofVal z=some x.2
def pBody (P:Program) (x:Nat×(Code×Nat×List ResultVar)): Prop :=
 ∃ fn,P.funcs[x.1]? =some fn∧fn.body=some x.2.1∧fn.ntmps=x.2.2.1∧fn.results.toList=x.2.2.2∧ ∀ args w,(callFunc x.1 args).run P w= .ok (.enter x.1 args) w
def pEqg (P:Program) (x:Nat×Unit): Prop:=P.eqGuardType P.depth x.1=false
def pFields (P:Program) (x:Nat×List (TypeId×Nat)): Prop := ∃ fs,P.underlying x.1=some (.struct fs)∧x.2=fs.toList.map (fun f=>(f.type,f.offset))∧(fs.toList.all fun f=>f.name != "_")=true
def pHeld (P:Program) (x:Nat×Unit): Prop:=P.stoodInHeld x.1=false
section
variable (P:Program) (i:Nat)
theorem pUnd.mk (d:TypeDesc) (h:P.underlying i=some d): pUnd P (i,d):=h
theorem pSize.mk (n:Nat) (t:TypeInfo) (h:P.info? i=some t) (h2:t.size=n): pSize P (i,n):=⟨t,h,h2⟩
theorem pBytes.mk (n:Nat) (t:TypeInfo) (h:P.info? i=some t) (h2:t.bytes=n): pBytes P (i,n):=⟨t,h,h2⟩
theorem pZero.mk (a:AV) (t:TypeInfo) (z:Value) (h:P.info? i=some t) (h2:t.zero=some z) (h3:ofVal z=some a): pZero P (i,a):=⟨t,z,h,h2,h3⟩
theorem pBody.mk (c:Code) (n:Nat) (rs:List ResultVar) (f:Func) (h:P.funcs[i]? =some f) (h2:f.body=some c) (h3:f.ntmps=n) (h4:f.results.toList=rs) (h5 : ∀ args w,(callFunc i args).run P w= .ok (.enter i args) w): pBody P (i,(c,n,rs)):=⟨f,h,h2,h3,h4,h5⟩
theorem pEqg.mk (h:P.eqGuardType P.depth i=false): pEqg P (i,()):=h
theorem pFields.mk (l:List (TypeId×Nat)) (fs:Array Field) (h:P.underlying i=some (.struct fs)) (h2:fs.toList.map (fun f=>(f.type,f.offset))=l) (h3:(fs.toList.all fun f=>f.name != "_")=true): pFields P (i,l):=⟨fs,h,h2.symm,h3⟩
theorem pHeld.mk (h:P.stoodInHeld i=false): pHeld P (i,()):=h
end
structure TabsOk (P:Program) (T:Tabs) (lund:List (Nat×TypeDesc)) (lsize lbytes:List (Nat×Nat)) (lzero:List (Nat×AV)) (lbody:List (Nat×(Code×Nat×List ResultVar)))
  (leqg:List (Nat×Unit)) (lfields:List (Nat×List (TypeId×Nat))) (lheld:List (Nat×Unit)): Prop where
 und:T.und=Tr.ofList lund
 size:T.size=Tr.ofList lsize
 bytes:T.bytes=Tr.ofList lbytes
 zero:T.zero=Tr.ofList lzero
 body:T.body=Tr.ofList lbody
 eqg:T.eqg=Tr.ofList leqg
 fields:T.fields=Tr.ofList lfields
 held:T.held=Tr.ofList lheld
 mixed:P.follows .mixedOrders=true
 undOk:AllL (pUnd P) lund
 sizeOk:AllL (pSize P) lsize
 bytesOk:AllL (pBytes P) lbytes
 zeroOk:AllL (pZero P) lzero
 bodyOk:AllL (pBody P) lbody
 eqgOk:AllL (pEqg P) leqg
 fieldsOk:AllL (pFields P) lfields
 heldOk:AllL (pHeld P) lheld
theorem TabsOk.ok {P:Program} {T:Tabs} {lund:List (Nat×TypeDesc)} {lsize lbytes:List (Nat×Nat)} {lzero:List (Nat×AV)} {lbody:List (Nat×(Code×Nat×List ResultVar))}
  {leqg:List (Nat×Unit)} {lfields:List (Nat×List (TypeId×Nat))} {lheld:List (Nat×Unit)} (h:TabsOk P T lund lsize lbytes lzero lbody leqg lfields lheld) (wr:Bool): (T.info wr).Ok P where
 und t d e:=by
  change T.und.get t=some d at e
  rw [h.und] at e
  exact h.undOk.mem _ (Tr.mem_of_get e)
 size t n e:=by
  change T.size.get t=some n at e
  rw [h.size] at e
  exact h.sizeOk.mem _ (Tr.mem_of_get e)
 bytes t n e:=by
  change T.bytes.get t=some n at e
  rw [h.bytes] at e
  exact h.bytesOk.mem _ (Tr.mem_of_get e)
 zero t a e:=by
  change T.zero.get t=some a at e
  rw [h.zero] at e
  exact h.zeroOk.mem _ (Tr.mem_of_get e)
 body f c n rs e:=by
  change T.body.get f=some (c,n,rs) at e
  rw [h.body] at e
  exact h.bodyOk.mem _ (Tr.mem_of_get e)
 eqg t e:=by
  change (match T.eqg.get t with | some _=>true | none=>false)=true at e
  rw [h.eqg] at e
  cases hg:(Tr.ofList leqg).get t with
  | none=>rw [hg] at e;cases e
  | some u=>exact h.eqgOk.mem _ (Tr.mem_of_get hg)
 fields t l e:=by
  change T.fields.get t=some l at e
  rw [h.fields] at e
  obtain ⟨fs,h1,h2,h3⟩:=h.fieldsOk.mem _ (Tr.mem_of_get e)
  exact ⟨fs,h1,h2,fun f hf=>by simpa using List.all_eq_true.1 h3 f hf⟩
 held t e:=by
  change (match T.held.get t with | some _=>true | none=>false)=true at e
  rw [h.held] at e
  cases hg:(Tr.ofList lheld).get t with
  | none=>rw [hg] at e;cases e
  | some u=>exact h.heldOk.mem _ (Tr.mem_of_get hg)
 mixed:=h.mixed
end Go.Sx
end
