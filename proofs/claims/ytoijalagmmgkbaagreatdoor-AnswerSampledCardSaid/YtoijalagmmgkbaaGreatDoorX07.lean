/- Lemmas, part 7. -/
import Derived.Test.YtoijalagmmgkbaaGreatDoorX05
set_option linter.all false
set_option linter.defProp false
set_option maxRecDepth 1000000
namespace Go.Sx
open Go
open Option renaming some->M
noncomputable section
section
def Tr.ofList{α:Type}:List (Nat×α)->Tr α
 |[]=> .e
 |(i,a)::l=>(Tr.ofList l).set i a
theorem Tr.fX{α:Type}:∀{l:List (Nat×α)}{i:Nat}{a:α},(Tr.ofList l).get i=M a->(i,a)∈l
 |[],i,a,h=>by simp[Tr.ofList,Tr.qV]at h
 |(j,b)::l,i,a,h=>by
  simp only[Tr.ofList,Tr.bH]at h
  by_cases e:i=j
  ·subst e;rw[if_pos A]at h;cases h;exact List.mem_cons_self
  ·rw[if_neg e]at h;exact List.mem_cons_of_mem _ (Tr.fX h)
def JR{α:Type}(p:α->Prop):List α->Prop
 |[]=>True
 |x::xs=>p x/\JR p xs
theorem JR.mem{α:Type}{p:α->Prop}:∀{l:List α},JR p l->∀x∈l,p x
 |_::_,⟨h1,a⟩,x,hx=>(List.mem_cons.1 hx).elim (λe=>e▸h1) (λe=>JR.mem a x e)
theorem JR.H6{α:Type}(p:α->Prop):JR p []:=trivial
theorem JR.Yv{α:Type}(p:α->Prop)(x:α)(a:List α)(b:p x)(c:JR p a):JR p (x::a):=⟨b,c⟩
structure Ld where
 dI:Tr TypeDesc
 size:Tr Nat
 bytes:Tr Nat
 zero:Tr AV
 body:Tr (Code×Nat×List ResultVar)
 OI:Tr Unit
 fields:Tr (List (TypeId×Nat))
 held:Tr Unit
 G:Nat
def Ld.VE(T:Ld)(wr:Bool):ba where
 dI t:=T.dI.get t
 size t:=T.size.get t
 bytes t:=T.bytes.get t
 zero t:=T.zero.get t
 body f:=T.body.get f
 OI t:=match T.OI.get t with|some _=>true|none=>false
 fields t:=T.fields.get t
 held t:=match T.held.get t with|some _=>true|none=>false
 G:=T.G
 wr:=wr
def H7(P:Program)(x:Nat×TypeDesc):Prop:=P.underlying x.1=M x.2
def Gu(P:Program)(x:Nat×Nat):Prop := ∃i,P.info? x.1=M i/\i.size=x.2
def Ae(P:Program)(x:Nat×Nat):Prop := ∃i,P.info? x.1=M i/\i.bytes=x.2
def Gv(P:Program)(x:Nat×AV):Prop := ∃i a,P.info? x.1=M i/\i.zero=M a/\dN a=M x.2
def Gw(P:Program)(x:Nat×(Code×Nat×List ResultVar)):Prop :=
 ∃fn,P.funcs[x.1]? =M fn/\fn.body=M x.2.1/\fn.ntmps=x.2.2.1/\fn.results.toList=x.2.2.2/\∀args w,(callFunc x.1 args).run P w= .ok (.enter x.1 args) w
def H8(P:Program)(x:Nat×Unit):Prop:=P.eqGuardType P.depth x.1=false
def px(P:Program)(x:Nat×List (TypeId×Nat)):Prop := ∃a,P.underlying x.1=M (.struct a)/\x.2=a.toList.map (λf=>(f.type,f.offset))/\(a.toList.all λf=>f.name != "_")=true
def yB(P:Program)(x:Nat×Unit):Prop:=P.stoodInHeld x.1=false
section
variable (P:Program) (i:Nat)
theorem H7.mk(d:TypeDesc)(h:P.underlying i=M d):H7 P (i,d):=h
theorem Gu.mk(n:Nat)(t:TypeInfo)(h:P.info? i=M t)(a:t.size=n):Gu P (i,n):=⟨t,h,a⟩
theorem Ae.mk(n:Nat)(t:TypeInfo)(h:P.info? i=M t)(a:t.bytes=n):Ae P (i,n):=⟨t,h,a⟩
theorem Gv.mk(a:AV)(t:TypeInfo)(b:Value)(h:P.info? i=M t)(c:t.zero=M b)(d:dN b=M a):Gv P (i,a):=⟨t,b,h,c,d⟩
theorem Gw.mk(c:Code)(n:Nat)(rs:List ResultVar)(f:Func)(h:P.funcs[i]? =M f)(a:f.body=M c)(b:f.ntmps=n)(d:f.results.toList=rs)(j:∀args w,(callFunc i args).run P w= .ok (.enter i args) w):Gw P (i,(c,n,rs)):=⟨f,h,a,b,d,j⟩
theorem H8.mk(h:P.eqGuardType P.depth i=false):H8 P (i,()):=h
theorem px.mk(l:List (TypeId×Nat))(a:Array Field)(h:P.underlying i=M (.struct a))(b:a.toList.map (λf=>(f.type,f.offset))=l)(c:(a.toList.all λf=>f.name != "_")=true):px P (i,l):=⟨a,h,b.symm,c⟩
theorem yB.mk(h:P.stoodInHeld i=false):yB P (i,()):=h
end
structure Ei (P:Program) (a:Ld) (lund:List (Nat×TypeDesc)) (lsize lbytes:List (Nat×Nat)) (lzero:List (Nat×AV)) (lbody:List (Nat×(Code×Nat×List ResultVar)))
  (leqg:List (Nat×Unit)) (lfields:List (Nat×List (TypeId×Nat))) (lheld:List (Nat×Unit)):Prop where
 dI:a.dI=Tr.ofList lund
 size:a.size=Tr.ofList lsize
 bytes:a.bytes=Tr.ofList lbytes
 zero:a.zero=Tr.ofList lzero
 body:a.body=Tr.ofList lbody
 OI:a.OI=Tr.ofList leqg
 fields:a.fields=Tr.ofList lfields
 held:a.held=Tr.ofList lheld
 mixed:P.follows .mixedOrders=true
 R7:JR (H7 P) lund
 Lf:JR (Gu P) lsize
 uR:JR (Ae P) lbytes
 Lg:JR (Gv P) lzero
 Lh:JR (Gw P) lbody
 R8:JR (H8 P) leqg
 BK:JR (px P) lfields
 Li:JR (yB P) lheld
theorem Ei.ok{P:Program}{T:Ld}{v:List (Nat×TypeDesc)}{o j:List (Nat×Nat)}{q:List (Nat×AV)}{s:List (Nat×(Code×Nat×List ResultVar))}
  {m:List (Nat×Unit)} {b:List (Nat×List (TypeId×Nat))} {i:List (Nat×Unit)} (h:Ei P T v o j q s m b i) (wr:Bool):(T.VE wr).Ok P where
 dI t d e:=by
  change T.dI.get t=M d at e
  rw[h.dI]at e
  exact h.R7.mem _ (Tr.fX e)
 size t n e:=by
  change T.size.get t=M n at e
  rw[h.size]at e
  exact h.Lf.mem _ (Tr.fX e)
 bytes t n e:=by
  change T.bytes.get t=M n at e
  rw[h.bytes]at e
  exact h.uR.mem _ (Tr.fX e)
 zero t a e:=by
  change T.zero.get t=M a at e
  rw[h.zero]at e
  exact h.Lg.mem _ (Tr.fX e)
 body f c n rs e:=by
  change T.body.get f=M (c,n,rs)at e
  rw[h.body]at e
  exact h.Lh.mem _ (Tr.fX e)
 OI t e:=by
  change (match T.OI.get t with|some _=>true|none=>false)=true at e
  rw[h.OI]at e
  cases w:(Tr.ofList m).get t with
  |none=>rw[w]at e;cases e
  |some u=>exact h.R8.mem _ (Tr.fX w)
 fields t l e:=by
  change T.fields.get t=M l at e
  rw[h.fields]at e
  obtain⟨y,B,C,D⟩:=h.BK.mem _ (Tr.fX e)
  exact⟨y,B,C,λf E=>by simpa using List.all_eq_true.1 D f E⟩
 held t e:=by
  change (match T.held.get t with|some _=>true|none=>false)=true at e
  rw[h.held]at e
  cases w:(Tr.ofList i).get t with
  |none=>rw[w]at e;cases e
  |some u=>exact h.Li.mem _ (Tr.fX w)
 mixed:=h.mixed
end
end
end Go.Sx
