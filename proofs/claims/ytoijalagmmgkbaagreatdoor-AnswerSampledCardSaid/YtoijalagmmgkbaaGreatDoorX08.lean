/- Lemmas, part 8. -/
import Derived.Test.YtoijalagmmgkbaaGreatDoorProg
import Derived.Test.YtoijalagmmgkbaaGreatDoorX07
set_option linter.all false
set_option linter.defProp false
section
set_option maxRecDepth 1000000
set_option linter.all false
namespace Go.Sx.Yw
open Go
noncomputable def yC(P:Program)(x:Nat×TypeInfo):Prop:=P.info? x.1=some x.2
noncomputable def Yx(x:Nat×TypeInfo):Nat×Nat:=(x.1,x.2.size)
noncomputable def Yy(x:Nat×TypeInfo):Nat×Nat:=(x.1,x.2.bytes)
noncomputable def VF(a:Option Value):Option AV:=match a with|some a=>dN a|none=>none
noncomputable def XG(x:Nat×TypeInfo):Nat×AV:=(x.1,match VF x.2.zero with|some a=>a|none=> .any)
noncomputable def Ej(x:Nat×TypeInfo):Bool:=match VF x.2.zero with|some _=>true|none=>false
noncomputable def bo(f:Func):Code×Nat×List ResultVar:=(match f.body with|some c=>c|none=> .skip,f.ntmps,f.results.toList)
noncomputable def XH(x:Nat×Func):Nat×(Code×Nat×List ResultVar):=(x.1,bo x.2)
noncomputable def PF(P:Program)(x:Nat×Func):Prop:=P.funcs[x.1]? =some x.2/\x.2.body.isSome=true/\∀args w,(callFunc x.1 args).run P w= .ok (.enter x.1 args) w
noncomputable def und2(T:Tr TypeInfo)(t:TypeInfo):TypeDesc:=match t.desc with
 | .named _ u=>match T.get u with|some i=>i.desc|none=> .invalid
 |d=>d
noncomputable def und3(T:Tr TypeInfo)(x:Nat×TypeInfo):Nat×TypeDesc:=(x.1,und2 T x.2)
noncomputable def unded(T:Tr TypeInfo)(x:Nat×TypeInfo):Bool:=match x.2.desc with
 | .named _ u=>(T.get u).isSome
 |_=>true
section
variable {P:Program}
theorem all_map{α a:Type}{p:α->Prop}{q:a->Prop}{f:α->a}(h:∀x,p x->q (f x)):∀{l:List α},JR p l->JR q (l.map f)
 |[],_=>trivial
 |_::_,⟨h1,b⟩=>⟨h _ h1,all_map h b⟩
theorem Ty{l:List (Nat×TypeInfo)}(h:JR (yC P) l):JR (Gu P) (l.map Yx):=all_map (λx hx=>⟨x.2,hx,rfl⟩) h
theorem PG{l:List (Nat×TypeInfo)}(h:JR (yC P) l):JR (Ae P) (l.map Yy):=all_map (λx hx=>⟨x.2,hx,rfl⟩) h
theorem Lj:∀{l:List (Nat×TypeInfo)},JR (yC P) l->l.all Ej=true->JR (Gv P) (l.map XG)
 |[],_,_=>trivial
 |x::l,⟨h1,f⟩,d=>by
  simp only[List.all_cons,bf]at d
  refine⟨?_,Lj f d.2⟩
  have hx:=d.1
  cases c:x.2.zero with
  |none=>simp[Ej,VF,c]at hx
  |some b=>
   cases e:dN b with
   |none=>simp[Ej,VF,c,e]at hx
   |some a=>exact⟨x.2,b,h1,c,by simp[XG,VF,c,e]⟩
theorem Tz{l:List (Nat×Func)}(h:JR (PF P) l):JR (Gw P) (l.map XH):=
 all_map (λx hx=>by
  obtain⟨d,a,e⟩:=hx
  cases b:x.2.body with
  |none=>rw[b]at a;cases a
  |some c=>exact⟨x.2,d,by simp[XH,bo,b],rfl,rfl,e⟩) h
theorem allOf{α:Type}{p:Nat×α->Prop}{c:Nat->Bool}{f:Nat->α}(h:∀i,c i=true->p (i,f i)):∀{l:List Nat},l.all c=true->JR p (l.map λi=>(i,f i))
 |[],_=>trivial
 |i::l,e=>by
  simp only[List.all_cons,bf]at e
  exact⟨h i e.1,allOf h e.2⟩
noncomputable def cBod(P:Program)(i:Nat):Bool:=match P.funcs[i]? with|some f=>f.body.isSome && !(f.name== "runtime.NumGoroutine")|none=>false
theorem bodOf(d:Func)(i:Nat)(h:cBod P i=true):PF P (i,(P.funcs[i]?).getD d):=by
 unfold cBod at h
 cases a:P.funcs[i]? with
 |none=>rw[a]at h;cases h
 |some f=>
  rw[a]at h
  simp only[bf,Bool.not_eq_true']at h
  have b:f.body≠none:=λe=>by rw[e]at h;cases h.1
  have hn:f.name≠ "runtime.NumGoroutine" :=λe=>by rw[e]at h;exact absurd h.2 zA
  refine⟨a,h.1,λargs w=>?_⟩
  show(callFunc i args).run P w=_
  simp[callFunc,go_sem,a,hn,b]
noncomputable def fOf(P:Program)(i:Nat):List (TypeId×Nat):=match P.underlying i with|some (.struct a)=>a.toList.map λf=>(f.type,f.offset)|_=>[]
noncomputable def cFld(P:Program)(i:Nat):Bool:=match P.underlying i with|some (.struct a)=>a.toList.all λf=>f.name != "_" |_=>false
theorem fldOf(i:Nat)(h:cFld P i=true):px P (i,fOf P i):=by
 unfold cFld at h
 split at h
 ·rename_i a e
  exact⟨a,e,by simp only[fOf,e],h⟩
 ·cases h
theorem und_of{T:Tr TypeInfo}{l:List (Nat×TypeInfo)}(a:T=Tr.ofList l)(hl:JR (yC P) l){u:Nat}{i:TypeInfo}(h:T.get u=some i):P.info? u=some i:=by
 rw[a]at h
 exact hl.mem _ (Tr.fX h)
theorem okUnd{T:Tr TypeInfo}{c:List (Nat×TypeInfo)}(e:T=Tr.ofList c)(f:JR (yC P) c):∀{l:List (Nat×TypeInfo)},JR (yC P) l->l.all (unded T)=true->JR (H7 P) (l.map (und3 T))
 |[],_,_=>trivial
 |x::l,⟨a,g⟩,b=>by
  simp only[List.all_cons,bf]at b
  refine⟨?_,okUnd e f g b.2⟩
  have hx:=b.1
  have a:P.info? x.1=some x.2:=a
  show P.underlying x.1=some (und2 T x.2)
  obtain⟨k,d,s,sz,h,m,al,n,o,p,q⟩:=x
  cases d with
  |named r u=>
   simp only[unded]at hx
   obtain⟨i,hi⟩:=Option.isSome_iff_exists.1 hx
   have j:=und_of e f hi
   simp only[Program.underlying,a,und2,hi,j,Option.map_some]
  |_=>simp only[Program.underlying,a,und2]
end
end Go.Sx.Yw
namespace Go.Proofs.Tryz
open Go Go.Sx Go.Sx.Yw
noncomputable def uS:List (Nat×TypeInfo):=(List.range 394).map λi=>(i,(prog.info? i).getD t0)
noncomputable def sxTinfo:Tr TypeInfo:=Tr.ofList uS
theorem Af:JR (yC prog) uS:=allOf (c:=λi=>(prog.info? i).isSome) (λi h=>by
 show prog.info? i=some ((prog.info? i).getD t0)
 cases hx:prog.info? i with
 |none=>rw[hx]at h;cases h
 |some t=>rfl) U
noncomputable def GA:List (Nat×Func):=([2,3,4,5,6,7,8,9,10,11,12,13,14,15,16,17,18,19,20,21,22,23,24,25,26,27,28,29,30,31,32,33,34,35,36,37,38,39,40,41,42,43,44,45,46,47,48,49,50,51,52,53,54,55,56,57,58,59,60,61,62,63,64,65,66,67,68,69,70,71,72,73,74,75,76,77,78,79,80,81,82,83,84,85,86,87,88,89,90,91,92,93,94,95,96,97,98,99,100,101,102,103,104,105,106,107,108,109,110,111,112,113,114,115,116,117,118,119,120,121,122,123,124,125,126,127,128,129,130,131,132,133,134,135,136,137,138,139,140,141,142,143,144,145,146,147,148,149,150,151,152,153,154,155,156,157,158,159,160,161,162,163,164,165,166,167,168,169,170,171,172,173,174,175,176,177,178,179,180,181,182,183,184,185,186,187,188,189,190,191,192,193,194,195,196,197,198,199,200,201,202,203,204,205,206,207,208,209,210,211,212,213,214,215,216,217,218,219,220,221,222,223,224,225,226,227,228,229,230,231,232,233,234,235,236,237,238,239,240,241,242,243,244,245,246,247,248,249,250,251,252,253,254,255,256,257,258,259,260,261,262,263,264,265,266,267,268,270,271,272,273,274,275,276,277,278,279,280,281,282,283,284,285,286,287,288,289,291,292,293,294,295,296,297,298,299,300,301,302,303,304,306,307,308,331,332,333,334,335,336,337,338,339,340,341,342,343,344,345,346,347,348,349,350,351,352,353,354,355,356,357,358,359,360,361,378]).map λi=>(i,(prog.funcs[i]?).getD f2)
theorem PQ:JR (PF prog) GA:=allOf (bodOf f2) U
noncomputable def Ln:List (Nat×Unit):=[7,8,13,14,18,19,23,24,29,30,31,32,43,44,47,48,54,56,57,63,64,78,79,84,93,94,98,99,108,109,116,117,127,128,141,142,147,148,154,155,156,157,161,162,177,178,183,184,201,202,219,220,240,241,311,312,341,349,350,354,355,356,357,358,359,362,363,364,365,366,367,368,374,375].map λi=>(i,())
theorem TE:JR (H8 prog) Ln:=allOf (c:=λi=>!prog.eqGuardType prog.depth i) (λ_ h=>(Bool.not_eq_true' _).mp h) U
noncomputable def Gz:List (Nat×Unit):=[7,8,23,24,29,30,31,32,43,44,47,48,56,57,63,64,78,79,93,94,98,99,108,109,116,117,147,148,154,155,156,157,161,162,177,178,183,184,219,220,240,241,329,330,349,350,357,358].map λi=>(i,())
theorem PN:JR (yB prog) Gz:=allOf (c:=λi=>!prog.stoodInHeld i) (λ_ h=>(Bool.not_eq_true' _).mp h) U
noncomputable def yE:List (Nat×List (TypeId×Nat)):=[7,8,13,14,18,19,23,24,29,30,31,32,43,44,47,48,56,57,63,64,78,79,93,94,98,99,108,109,116,117,147,148,154,155,156,157,161,162,177,178,183,184,219,220,240,241,329,330,349,350,357,358,364,365,374,375].map λi=>(i,fOf prog i)
theorem Ia:JR (px prog) yE:=allOf fldOf U
noncomputable def Lo:Ld:=⟨Tr.ofList (uS.map (und3 sxTinfo)),Tr.ofList (uS.map Yx),Tr.ofList (uS.map Yy),Tr.ofList (uS.map XG),Tr.ofList (GA.map XH),Tr.ofList Ln,Tr.ofList yE,Tr.ofList Gz,12⟩
theorem Lp:Ei prog Lo (uS.map (und3 sxTinfo)) (uS.map Yx) (uS.map Yy) (uS.map XG) (GA.map XH) Ln yE Gz:={dI:=rfl,size:=rfl,bytes:=rfl,zero:=rfl,body:=rfl,OI:=rfl,fields:=rfl,held:=rfl,mixed:=rfl,R7:=okUnd A Af Af U,Lf:=Ty Af,uR:=PG Af,Lg:=Lj Af U,Lh:=Tz PQ,R8:=TE,BK:=Ia,Li:=PN}
end Go.Proofs.Tryz
end
