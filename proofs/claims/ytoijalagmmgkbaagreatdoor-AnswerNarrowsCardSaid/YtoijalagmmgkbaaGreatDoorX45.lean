/- The proof of a statement of the seat, part 45. -/
import Derived.Test.YtoijalagmmgkbaaGreatDoorX43
import Derived.Test.YtoijalagmmgkbaaGreatDoorX44
set_option linter.all false
set_option linter.defProp false
set_option maxRecDepth 1000000
namespace Go.Sx
open Go
open Go.IntKind renaming i64->B
noncomputable section
section
open Go.Deep Go.Proofs Go.ChangeShapes Go.WideShapes
open Go.Proofs.YtoijalagmmgkbaaGreatDoor (Rows.answerNarrowsRow)
theorem Zq:(II.body 7).isSome=true:=by kernel_rfl
theorem Oe{H:Type}{enc:TypeId×Value->H}{P:Program}{w:World}{b:Nat}{a:Nat->Bool}{held:Bool}{o t1 t2 q r s:TypeId}{args:Array Value}{ds:List (DataW H)}{t:List MemPlace}(h:DataW.TrodAll enc P w b a held [o,t1,t2,q,r,s] args.toList ds t):
  ∃c d e f g i j d1 k l m n,args= #[c,d,e,f,g,i]/\ds=[j,d1,k,l,m,n]/\(∃p,DataW.Trod enc P w b a held o c j p)/\(∃p,DataW.Trod enc P w b a held t1 d d1 p)/\(∃p,DataW.Trod enc P w b a held t2 e k p)/\(∃p,DataW.Trod enc P w b a held q f l p)/\(∃p,DataW.Trod enc P w b a held r g m p)/\∃p,DataW.Trod enc P w b a held s i n p:=by
 obtain⟨c,u,j,v,p0,X,Y,rfl,rfl,x,y⟩:=trodAll_cons h
 obtain⟨d,C,d1,D,Z,q1,rfl,rfl,rfl,E,r1⟩:=trodAll_cons y
 obtain⟨e,F,k,G,p2,q2,rfl,rfl,rfl,I,J⟩:=trodAll_cons r1
 obtain⟨f,K,l,L,p3,q3,rfl,rfl,rfl,M,N⟩:=trodAll_cons J
 obtain⟨g,O,m,Q,p4,q4,rfl,rfl,rfl,R,S⟩:=trodAll_cons N
 obtain⟨i,T,n,U,p5,q5,rfl,rfl,rfl,V,W⟩:=trodAll_cons S
 obtain⟨rfl,rfl,_⟩:=trodAll_nil W
 exact⟨c,d,e,f,g,i,j,d1,k,l,m,n,by cases args;simp_all,rfl,⟨_,x⟩,⟨_,E⟩,⟨_,I⟩,⟨_,M⟩,⟨_,R⟩,⟨_,V⟩⟩
theorem open_int{H:Type}{enc:TypeId×Value->H}{W:World}{sp:Nat->Bool}{a:Nat}{r:_}{v:Value}{d:DataW H}(c:Value.okWide Tryz.prog W r a 3 v)(h:∃p,DataW.Trod enc Tryz.prog W 0 sp true 3 v d p):∃n,aN B n=true/\v= .int B n:=by
 obtain⟨p,fuel,h⟩:=h
 obtain⟨n,rfl⟩:=okWide_int Tryz.underlying3 c
 obtain⟨b,e,_,w⟩:=DataW.trod_int Tryz.underlying3 h
 have e:[Value.int B n]=[.int B b]:=e
 have:n=b:=by simpa using e
 subst this
 exact⟨n,xC w,rfl⟩
theorem V2{H:Type}{enc:TypeId×Value->H}{W:World}{g:Nat}{args:Array Value}{ds:List (DataW H)}{F:List MemPlace}{sp:Nat->Bool}
  (a:∀(j:Nat) t v,Tryz.f7.params[j]? =Option.some t->args[j]? =Option.some v->Value.okWide Tryz.prog W .any g t v)
  (hA:DataW.TrodAll enc Tryz.prog W 0 sp true Tryz.f7.params.toList args.toList ds F) (hL:laidMetH Tryz.prog Rows.answerNarrowsRow.laid W):
  Calls Tryz.prog 7 args W λe u=>e= .returned (.bool true)/\kU W u:=by
 rw[Tryz.params7]at hA a
 obtain⟨w,G,I,J,K,L,d0,d1,d2,d3,d4,d5,rfl,_,i,l,M,N,O,P⟩:=Oe hA
 obtain⟨b,o,p,ms,d,a1,a2,Q⟩:=Kc hL
 have f:=DD W b
 have R:=U3 (OW f hL) (Kd hL) (OU hL) (RW hL) (RX hL) (OV hL) ⟨o,p,ms,d,a1,a2,Q⟩
 obtain⟨_,q,i⟩:=i
 obtain⟨_,r,l⟩:=l
 obtain⟨S,z2,T,m,C,U,w0,V,Y,Z⟩:=F4 f (a 0 24 w rfl rfl) i
 obtain⟨sa,sl,sc,rfl⟩:=okWide_slice Tryz.underlying25 (a 1 25 G rfl rfl)
 obtain⟨x,x2,rfl⟩:=open_int (a 2 3 I rfl rfl) M
 obtain⟨y,x3,rfl⟩:=open_int (a 3 3 J rfl rfl) N
 obtain⟨D,w4,rfl⟩:=open_int (a 4 3 K rfl rfl) O
 obtain⟨E,w5,rfl⟩:=open_int (a 5 3 L rfl rfl) P
 obtain⟨n,X,r1,hX⟩:=zy f Tryz.underlying25 Tryz.underlying84 Tryz.underlying3 c3 Za (by omega) l
 have hv:aU (NC W b) [.agg [.int B S,.az m 3 (au C),.int B z2,.int B T],.az n 6 (fm X),.int B x,.int B y,.int B D,.int B E] [w,.slice sa sl sc,.int B x,.int B y,.int B D,.int B E]:=aU.aL.2 ⟨U,aU.aL.2 ⟨r1,aU.aL.2 ⟨by simp only[VR],aU.aL.2 ⟨by simp only[VR],aU.aL.2 ⟨by simp only[VR],aU.aL.2 ⟨by simp only[VR],rfl⟩⟩⟩⟩⟩⟩
 rcases XP Z w0 V Y (Xh n X hX) x2 x3 w4 w5 (OX W b) (NC W b) W _ rfl hv R with⟨_,k⟩|⟨v,w',k,_⟩
 ·refine k.mono λe u s=>?_
  cases e with
  |returned v=>
   obtain⟨ρ',_,k1,k2⟩:=s
   simp only[VR]at k2
   exact⟨by rw[k2],U4 k1⟩
  |panicked ch=>exact s.elim
  |outgrown=>exact s.elim
 ·exfalso
  obtain⟨⟨c,nt,rs⟩,hb⟩:=Option.isSome_iff_exists.1 Zq
  obtain⟨fn,_,_,_,_,h⟩:=iw.body 7 c nt rs hb
  rw[h]at k
  cases k
end
end
end Go.Sx
