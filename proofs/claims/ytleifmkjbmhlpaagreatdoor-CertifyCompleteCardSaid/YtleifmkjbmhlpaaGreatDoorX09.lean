/- The proof of a statement of the seat, part 9. -/
import Derived.Test.YtleifmkjbmhlpaaGreatDoorProg
import Derived.Test.YtleifmkjbmhlpaaGreatDoorX08
set_option linter.all false
set_option linter.defProp false
section
set_option maxRecDepth 1000000
set_option linter.all false
namespace Go.Sx.Tab
open Go
noncomputable def yz(P:Program)(x:Nat×TypeInfo):Prop:=P.info? x.1=some x.2
noncomputable def siz(x:Nat×TypeInfo):Nat×Nat:=(x.1,x.2.size)
noncomputable def byt(x:Nat×TypeInfo):Nat×Nat:=(x.1,x.2.bytes)
noncomputable def ZV(a:Option Value):Option AV:=match a with|some a=>jd a|none=>none
noncomputable def zer(x:Nat×TypeInfo):Nat×AV:=(x.1,match ZV x.2.zero with|some a=>a|none=> .any)
noncomputable def HQ(x:Nat×TypeInfo):Bool:=match ZV x.2.zero with|some _=>true|none=>false
noncomputable def bo(f:Func):Code×Nat×List ResultVar:=(match f.body with|some c=>c|none=> .skip,f.ntmps,f.results.toList)
noncomputable def bod(x:Nat×Func):Nat×(Code×Nat×List ResultVar):=(x.1,bo x.2)
noncomputable def XH(P:Program)(x:Nat×Func):Prop:=P.funcs[x.1]? =some x.2/\x.2.body.isSome=true/\∀args w,(callFunc x.1 args).run P w= .ok (.enter x.1 args) w
noncomputable def und2(T:Tr TypeInfo)(t:TypeInfo):TypeDesc:=match t.desc with
 | .named _ u=>match T.get u with|some i=>i.desc|none=> .invalid
 |d=>d
noncomputable def und3(T:Tr TypeInfo)(x:Nat×TypeInfo):Nat×TypeDesc:=(x.1,und2 T x.2)
noncomputable def unded(T:Tr TypeInfo)(x:Nat×TypeInfo):Bool:=match x.2.desc with
 | .named _ u=>(T.get u).isSome
 |_=>true
section
variable {P:Program}
theorem all_map{α a:Type}{p:α->Prop}{q:a->Prop}{f:α->a}(h:∀x,p x->q (f x)):∀{l:List α},ig p l->ig q (l.map f)
 |[],_=>trivial
 |_::_,⟨h1,b⟩=>⟨h _ h1,all_map h b⟩
theorem XI{l:List (Nat×TypeInfo)}(h:ig (yz P) l):ig (Kj P) (l.map siz):=all_map (λx hx=>⟨x.2,hx,rfl⟩) h
theorem Uy{l:List (Nat×TypeInfo)}(h:ig (yz P) l):ig (C8 P) (l.map byt):=all_map (λx hx=>⟨x.2,hx,rfl⟩) h
theorem P7:∀{l:List (Nat×TypeInfo)},ig (yz P) l->l.all HQ=true->ig (Kk P) (l.map zer)
 |[],_,_=>trivial
 |x::l,⟨h1,d⟩,c=>by
  simp only[List.all_cons,ba]at c;refine⟨?_,P7 d c.2⟩;have hx:=c.1;cases h3:x.2.zero with
  |none=>simp[HQ,ZV,h3]at hx
  |some b=>
   cases h4:jd b with
   |none=>simp[HQ,ZV,h3,h4]at hx
   |some a=>exact⟨x.2,b,h1,h3,by simp[zer,ZV,h3,h4]⟩
theorem XJ{l:List (Nat×Func)}(h:ig (XH P) l):ig (Kl P) (l.map bod):=
 all_map (λx hx=>by
  obtain⟨b,a,h3⟩:=hx;cases h4:x.2.body with
  |none=>rw[h4]at a;cases a
  |some c=>exact⟨x.2,b,by simp[bod,bo,h4],rfl,rfl,h3⟩) h
theorem allOf{α:Type}{p:Nat×α->Prop}{c:Nat->Bool}{f:Nat->α}(h:∀i,c i=true->p (i,f i)):∀{l:List Nat},l.all c=true->ig p (l.map λi=>(i,f i))
 |[],_=>trivial
 |i::l,e=>by simp only[List.all_cons,ba]at e;exact⟨h i e.1,allOf h e.2⟩
noncomputable def cBod(P:Program)(i:Nat):Bool:=match P.funcs[i]? with|some f=>f.body.isSome && !(f.name== "runtime.NumGoroutine")|none=>false
theorem bodOf(d:Func)(i:Nat)(h:cBod P i=true):XH P (i,(P.funcs[i]?).getD d):=by
 unfold cBod at h;cases a:P.funcs[i]? with
 |none=>rw[a]at h;cases h
 |some f=>
  rw[a]at h;simp only[ba,Bool.not_eq_true']at h;have b:f.body≠none:=λe=>by rw[e]at h;cases h.1
  have c:f.name≠ "runtime.NumGoroutine" :=λe=>by rw[e]at h;exact absurd h.2 zA
  refine⟨a,h.1,λargs w=>?_⟩;show(callFunc i args).run P w=_;simp[callFunc,go_sem,a,c,b]
noncomputable def fOf(P:Program)(i:Nat):List (TypeId×Nat):=match P.underlying i with|some (.struct a)=>a.toList.map λf=>(f.type,f.offset)|_=>[]
noncomputable def cFld(P:Program)(i:Nat):Bool:=match P.underlying i with|some (.struct a)=>a.toList.all λf=>f.name != "_" |_=>false
theorem fldOf(i:Nat)(h:cFld P i=true):ub P (i,fOf P i):=by
 unfold cFld at h;split at h
 ·rename_i a e;exact⟨a,e,by simp only[fOf,e],h⟩
 ·cases h
theorem und_of{T:Tr TypeInfo}{l:List (Nat×TypeInfo)}(a:T=Tr.ofList l)(hl:ig (yz P) l){u:Nat}{i:TypeInfo}(h:T.get u=some i):P.info? u=some i:=by
 rw[a]at h;exact hl.mem _ (Tr.fW h)
theorem okUnd{T:Tr TypeInfo}{c:List (Nat×TypeInfo)}(e:T=Tr.ofList c)(f:ig (yz P) c):∀{l:List (Nat×TypeInfo)},ig (yz P) l->l.all (unded T)=true->ig (Uw P) (l.map (und3 T))
 |[],_,_=>trivial
 |x::l,⟨a,g⟩,b=>by
  simp only[List.all_cons,ba]at b;refine⟨?_,okUnd e f g b.2⟩;have hx:=b.1;have a:P.info? x.1=some x.2:=a;show P.underlying x.1=some (und2 T x.2);obtain⟨k,d,s,m,h,n,al,o,p,q,r⟩:=x;cases d with
  |named t u=>simp only[unded]at hx;obtain⟨i,hi⟩:=Option.isSome_iff_exists.1 hx;have j:=und_of e f hi;simp only[Program.underlying,a,und2,hi,j,Option.map_some]
  |_=>simp only[Program.underlying,a,und2]
end
end Go.Sx.Tab
namespace Go.Proofs.Tryz
open Go Go.Sx Go.Sx.Tab
noncomputable def kR:List (Nat×TypeInfo):=(List.range 399).map λi=>(i,(prog.info? i).getD t0)
noncomputable def sxTinfo:Tr TypeInfo:=Tr.ofList kR
theorem uc:ig (yz prog) kR:=allOf (c:=λi=>(prog.info? i).isSome) (λi h=>by
 show prog.info? i=some ((prog.info? i).getD t0);cases hx:prog.info? i with
 |none=>rw[hx]at h;cases h
 |some t=>rfl) U
noncomputable def C9:List (Nat×Func):=([2,3,4,5,6,7,8,9,10,11,12,13,14,15,16,17,18,19,20,21,22,23,24,25,26,27,28,29,30,31,32,33,34,35,36,37,38,39,40,41,42,43,44,45,46,47,48,49,50,51,52,53,54,55,56,57,58,59,60,61,62,63,64,65,66,67,68,69,70,71,72,73,74,75,76,77,78,79,80,81,82,83,84,85,86,87,88,89,90,91,92,93,94,95,96,97,98,99,100,101,102,103,104,105,106,107,108,109,110,111,112,113,114,115,116,117,118,119,120,121,122,123,124,125,126,127,128,129,130,131,132,133,134,135,136,137,138,139,140,141,142,143,144,145,146,147,148,149,150,151,152,153,154,155,156,157,158,159,160,161,162,163,164,165,167,168,169,170,171,172,173,174,175,176,177,178,179,180,181,182,183,184,185,186,187,188,189,190,191,192,193,194,195,196,197,198,199,200,201,202,203,204,205,206,207,208,209,210,211,212,213,214,215,216,217,218,219,220,221,222,223,224,225,226,227,228,229,230,231,232,233,234,235,236,237,238,239,240,241,242,243,244,245,247,248,249,250,251,252,253,254,255,256,257,258,259,260,261,262,263,264,265,266,267,268,269,270,271,272,273,274,275,276,277,279,280,281,282,283,284,285,286,287,288,290,291,292,313,314,315,316,317,318,319,320,321,322,323,324,325,326,327,328,329,330,331,332,333,334,335,336,337,338,339,340,341,342,343,344,345,346,347,348,349,350,351,352,353,354,370]).map λi=>(i,(prog.funcs[i]?).getD f2)
theorem Uz:ig (XH prog) C9:=allOf (bodOf f2) U
noncomputable def HT:List (Nat×Unit):=[7,8,13,14,18,19,24,25,31,32,33,34,37,38,42,43,44,45,46,47,48,72,75,76,78,79,81,87,88,90,91,97,98,106,107,109,110,115,116,121,122,127,128,136,137,152,153,175,176,177,178,184,185,188,203,204,236,239,262,263,266,267,330,331,333,334,349,356,357,358,359,360,361,364,365,366,367,368,369,375,376,387,388].map λi=>(i,())
theorem XK:ig (Ux prog) HT:=allOf (c:=λi=>!prog.eqGuardType prog.depth i) (λ_ h=>(Bool.not_eq_true' _).mp h) U
noncomputable def Da:List (Nat×Unit):=[7,8,24,25,31,32,33,34,37,38,42,43,45,46,47,48,75,76,78,79,87,88,90,91,97,98,106,107,109,110,115,116,121,122,136,137,152,153,175,176,177,178,184,185,262,263,266,267,313,314,330,331,359,360,387,388].map λi=>(i,())
theorem UA:ig (Km prog) Da:=allOf (c:=λi=>!prog.stoodInHeld i) (λ_ h=>(Bool.not_eq_true' _).mp h) U
noncomputable def vu:List (Nat×List (TypeId×Nat)):=[7,8,13,14,18,19,24,25,31,32,33,34,37,38,42,43,45,46,47,48,75,76,78,79,87,88,90,91,97,98,106,107,109,110,115,116,121,122,136,137,152,153,175,176,177,178,184,185,262,263,266,267,313,314,330,331,359,360,365,366,375,376,387,388].map λi=>(i,fOf prog i)
theorem LZ:ig (ub prog) vu:=allOf fldOf U
noncomputable def P8:P2:=⟨Tr.ofList (kR.map (und3 sxTinfo)),Tr.ofList (kR.map siz),Tr.ofList (kR.map byt),Tr.ofList (kR.map zer),Tr.ofList (C9.map bod),Tr.ofList HT,Tr.ofList vu,Tr.ofList Da,12⟩
theorem P9:HN prog P8 (kR.map (und3 sxTinfo)) (kR.map siz) (kR.map byt) (kR.map zer) (C9.map bod) HT vu Da:={eI:=rfl,size:=rfl,bytes:=rfl,zero:=rfl,body:=rfl,LD:=rfl,fields:=rfl,held:=rfl,mixed:=rfl,WS:=okUnd A uc uc U,P3:=XI uc,ke:=Uy uc,P4:=P7 uc U,P5:=XJ Uz,WT:=XK,EJ:=LZ,P6:=UA}
end Go.Proofs.Tryz
end
