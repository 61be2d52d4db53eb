/- The proof of a statement of the seat, part 44. -/
import Derived.Test.YtoijalagmmgkbaaGreatDoorX42
import Derived.Test.YtoijalagmmgkbaaGreatDoorX43
set_option linter.all false
set_option linter.defProp false
set_option maxRecDepth 1000000
namespace Go.Sx
open Go
noncomputable section
section
open Go.Deep Go.Proofs Go.ChangeShapes Go.WideShapes
open Go.Proofs.YtoijalagmmgkbaaGreatDoor (Rows.answerExactRow)
def Wu:(II.body 4).isSome=true:=U
def TP{H:Type}{enc:TypeId×Value->H}{W:World}{g:Nat}{args:Array Value}{ds:List (DataW H)}{x:List MemPlace}{sp:Nat->Bool}
  (a:∀(j:Nat) t v,Tryz.f4.params[j]? =Option.some t->args[j]? =Option.some v->Value.okWide Tryz.prog W .any g t v)
  (hA:DataW.TrodAll enc Tryz.prog W 0 sp true Tryz.f4.params.toList args.toList ds x) (hL:laidMetH Tryz.prog Rows.answerExactRow.laid W):
  Calls Tryz.prog 4 args W λe u=>e= .returned (.bool true)/\kU W u:=by
 rw[Tryz.params4]at hA a
 obtain⟨w,y,S,d1,p0,T,rfl,_,_,i,l⟩:=trodAll_two hA
 obtain⟨b,o,p,ms,d,a1,a2,D⟩:=Kc hL
 have f:=DD W b
 have E:=U3 (OW f hL) (Kd hL) (OU hL) (RW hL) (RX hL) (OV hL) ⟨o,p,ms,d,a1,a2,D⟩
 obtain⟨q,i⟩:=i
 obtain⟨r,l⟩:=l
 obtain⟨F,z2,G,m,C,I,w0,J,K,L⟩:=F4 f (a 0 24 w rfl rfl) i
 obtain⟨M,N,P,rfl⟩:=okWide_slice Tryz.underlying25 (a 1 25 y rfl rfl)
 obtain⟨n,X,r1,hX⟩:=zy f Tryz.underlying25 Tryz.underlying84 Tryz.underlying3 c3 Za O l
 have Q:aU (sk W b) [.agg [.int .i64 F,.az m 3 (au C),.int .i64 z2,.int .i64 G],.az n 6 (fm X)] [w,.slice M N P]:=aU.aL.2 ⟨I,aU.aL.2 ⟨r1,rfl⟩⟩
 rcases VZ L w0 J K (Xh n X hX) (OX W b) (sk W b) W _ rfl Q E with⟨_,k⟩|⟨v,w',k,_⟩
 ·refine k.mono λe u s=>?_
  cases e with
  |returned v=>
   obtain⟨ρ',_,k1,k2⟩:=s
   simp only[VR]at k2
   exact⟨by rw[k2],U4 k1⟩
  |panicked U=>exact s.elim
  |outgrown=>exact s.elim
 ·exfalso
  obtain⟨⟨c,nt,rs⟩,R⟩:=Option.isSome_iff_exists.1 Wu
  obtain⟨fn,_,_,_,_,h⟩:=iw.body 4 c nt rs R
  rw[h]at k
  cases k
end
end
end Go.Sx
