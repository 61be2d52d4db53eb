/- The proof of a statement of the seat, part 8. -/
import Derived.Test.YtleifmkjbmhlpaaGreatDoorX06
set_option linter.all false
set_option linter.defProp false
set_option maxRecDepth 1000000
namespace Go.Sx
open Go
open Option renaming some->M
noncomputable section
section
def Tr.ofList{α:Type}:List (Nat×α)->Tr α
 |[]=> .e
 |(i,a)::l=>(Tr.ofList l).set i a
theorem Tr.fW{α:Type}:∀{l:List (Nat×α)}{i:Nat}{a:α},(Tr.ofList l).get i=M a->(i,a)∈l
 |[],i,a,h=>by simp[Tr.ofList,Tr.nK]at h
 |(j,b)::l,i,a,h=>by
  simp only[Tr.ofList,Tr.bk]at h;by_cases e:i=j
  ·subst e;rw[if_pos A]at h;cases h;exact List.mem_cons_self
  ·rw[if_neg e]at h;exact List.mem_cons_of_mem _ (Tr.fW h)
def ig{α:Type}(p:α->Prop):List α->Prop
 |[]=>True
 |x::xs=>p x/\ig p xs
theorem ig.mem{α:Type}{p:α->Prop}:∀{l:List α},ig p l->∀x∈l,p x
 |_::_,⟨h1,a⟩,x,hx=>(List.mem_cons.1 hx).elim (λe=>e▸h1) (λe=>ig.mem a x e)
theorem ig.abL{α:Type}(p:α->Prop):ig p []:=trivial
theorem ig.abD{α:Type}(p:α->Prop)(x:α)(a:List α)(b:p x)(c:ig p a):ig p (x::a):=⟨b,c⟩
structure P2 where
 eI:Tr TypeDesc
 size:Tr Nat
 bytes:Tr Nat
 zero:Tr AV
 body:Tr (Code×Nat×List ResultVar)
 LD:Tr Unit
 fields:Tr (List (TypeId×Nat))
 held:Tr Unit
 G:Nat
def P2.ZU(T:P2)(wr:Bool):bg where
 eI t:=T.eI.get t
 size t:=T.size.get t
 bytes t:=T.bytes.get t
 zero t:=T.zero.get t
 body f:=T.body.get f
 LD t:=match T.LD.get t with|some _=>true|none=>false
 fields t:=T.fields.get t
 held t:=match T.held.get t with|some _=>true|none=>false
 G:=T.G
 wr:=wr
def Uw(P:Program)(x:Nat×TypeDesc):Prop:=P.underlying x.1=M x.2
def Kj(P:Program)(x:Nat×Nat):Prop := ∃i,P.info? x.1=M i/\i.size=x.2
def C8(P:Program)(x:Nat×Nat):Prop := ∃i,P.info? x.1=M i/\i.bytes=x.2
def Kk(P:Program)(x:Nat×AV):Prop := ∃i a,P.info? x.1=M i/\i.zero=M a/\jd a=M x.2
def Kl(P:Program)(x:Nat×(Code×Nat×List ResultVar)):Prop :=
 ∃fn,P.funcs[x.1]? =M fn/\fn.body=M x.2.1/\fn.ntmps=x.2.2.1/\fn.results.toList=x.2.2.2/\∀args w,(callFunc x.1 args).run P w= .ok (.enter x.1 args) w
def Ux(P:Program)(x:Nat×Unit):Prop:=P.eqGuardType P.depth x.1=false
def ub(P:Program)(x:Nat×List (TypeId×Nat)):Prop := ∃a,P.underlying x.1=M (.struct a)/\x.2=a.toList.map (λf=>(f.type,f.offset))/\(a.toList.all λf=>f.name != "_")=true
def Km(P:Program)(x:Nat×Unit):Prop:=P.stoodInHeld x.1=false
section
variable (P:Program) (i:Nat)
theorem Uw.mk(d:TypeDesc)(h:P.underlying i=M d):Uw P (i,d):=h
theorem Kj.mk(n:Nat)(t:TypeInfo)(h:P.info? i=M t)(a:t.size=n):Kj P (i,n):=⟨t,h,a⟩
theorem C8.mk(n:Nat)(t:TypeInfo)(h:P.info? i=M t)(a:t.bytes=n):C8 P (i,n):=⟨t,h,a⟩
theorem Kk.mk(a:AV)(t:TypeInfo)(b:Value)(h:P.info? i=M t)(c:t.zero=M b)(h3:jd b=M a):Kk P (i,a):=⟨t,b,h,c,h3⟩
theorem Kl.mk(c:Code)(n:Nat)(rs:List ResultVar)(f:Func)(h:P.funcs[i]? =M f)(a:f.body=M c)(h3:f.ntmps=n)(h4:f.results.toList=rs)(b:∀args w,(callFunc i args).run P w= .ok (.enter i args) w):Kl P (i,(c,n,rs)):=⟨f,h,a,h3,h4,b⟩
theorem Ux.mk(h:P.eqGuardType P.depth i=false):Ux P (i,()):=h
theorem ub.mk(l:List (TypeId×Nat))(a:Array Field)(h:P.underlying i=M (.struct a))(b:a.toList.map (λf=>(f.type,f.offset))=l)(h3:(a.toList.all λf=>f.name != "_")=true):ub P (i,l):=⟨a,h,b.symm,h3⟩
theorem Km.mk(h:P.stoodInHeld i=false):Km P (i,()):=h
end
structure HN (P:Program) (a:P2) (lund:List (Nat×TypeDesc)) (lsize lbytes:List (Nat×Nat)) (lzero:List (Nat×AV)) (lbody:List (Nat×(Code×Nat×List ResultVar)))
  (leqg:List (Nat×Unit)) (lfields:List (Nat×List (TypeId×Nat))) (lheld:List (Nat×Unit)):Prop where
 eI:a.eI=Tr.ofList lund
 size:a.size=Tr.ofList lsize
 bytes:a.bytes=Tr.ofList lbytes
 zero:a.zero=Tr.ofList lzero
 body:a.body=Tr.ofList lbody
 LD:a.LD=Tr.ofList leqg
 fields:a.fields=Tr.ofList lfields
 held:a.held=Tr.ofList lheld
 mixed:P.follows .mixedOrders=true
 WS:ig (Uw P) lund
 P3:ig (Kj P) lsize
 ke:ig (C8 P) lbytes
 P4:ig (Kk P) lzero
 P5:ig (Kl P) lbody
 WT:ig (Ux P) leqg
 EJ:ig (ub P) lfields
 P6:ig (Km P) lheld
theorem HN.ok{P:Program}{T:P2}{v:List (Nat×TypeDesc)}{o j:List (Nat×Nat)}{q:List (Nat×AV)}{s:List (Nat×(Code×Nat×List ResultVar))}
  {m:List (Nat×Unit)} {b:List (Nat×List (TypeId×Nat))} {i:List (Nat×Unit)} (h:HN P T v o j q s m b i) (wr:Bool):(T.ZU wr).Ok P where
 eI t d e:=by change T.eI.get t=M d at e;rw[h.eI]at e;exact h.WS.mem _ (Tr.fW e)
 size t n e:=by change T.size.get t=M n at e;rw[h.size]at e;exact h.P3.mem _ (Tr.fW e)
 bytes t n e:=by change T.bytes.get t=M n at e;rw[h.bytes]at e;exact h.ke.mem _ (Tr.fW e)
 zero t a e:=by change T.zero.get t=M a at e;rw[h.zero]at e;exact h.P4.mem _ (Tr.fW e)
 body f c n rs e:=by change T.body.get f=M (c,n,rs)at e;rw[h.body]at e;exact h.P5.mem _ (Tr.fW e)
 LD t e:=by
  change (match T.LD.get t with|some _=>true|none=>false)=true at e;rw[h.LD]at e;cases w:(Tr.ofList m).get t with
  |none=>rw[w]at e;cases e
  |some u=>exact h.WT.mem _ (Tr.fW w)
 fields t l e:=by change T.fields.get t=M l at e;rw[h.fields]at e;obtain⟨y,C,D,h3⟩:=h.EJ.mem _ (Tr.fW e);exact⟨y,C,D,λf E=>by simpa using List.all_eq_true.1 h3 f E⟩
 held t e:=by
  change (match T.held.get t with|some _=>true|none=>false)=true at e;rw[h.held]at e;cases w:(Tr.ofList i).get t with
  |none=>rw[w]at e;cases e
  |some u=>exact h.P6.mem _ (Tr.fW w)
 mixed:=h.mixed
end
end
end Go.Sx
