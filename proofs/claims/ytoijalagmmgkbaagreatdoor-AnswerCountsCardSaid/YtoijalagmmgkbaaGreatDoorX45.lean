/- The proof of a statement of the seat, part 45. -/
import Derived.Test.YtoijalagmmgkbaaGreatDoorX42
import Derived.Test.YtoijalagmmgkbaaGreatDoorX44
import Derived.Test.YtoijalagmmgkbaaGreatDoorX43
set_option linter.all false
set_option linter.defProp false
set_option maxRecDepth 1000000
namespace Go.Sx
open Go
open Go.IntKind renaming i64->M
noncomputable section
section
open Go.Deep Go.Proofs Go.ChangeShapes Go.WideShapes
open Go.Proofs.YtoijalagmmgkbaaGreatDoor (Rows.answerContainsRow)
def Xh(n:Nat)(X:Nat->Nat->Int)(h:∀j,j<n->∀k,k<6->aN M (X j k)=true):aI 6 n (fm X)=true:=by
 refine List.all_eq_true.2 λj a=>?_
 have a:=List.mem_range.1 a
 show(aN M (X j 0)&&(aN M (X j 1)&&(aN M (X j 2)&&(aN M (X j 3)&&(aN M (X j 4)&&(aN M (X j 5)&&true))))))=true
 rw[h j a 0 O,h j a 1 O,h j a 2 O,h j a 3 O,h j a 4 O,h j a 5 O];rfl
def Xi(n:Nat)(X:Nat->Nat->Int)(h:∀j,j<n->∀k,k<3->aN M (X j k)=true):aI 3 n (au X)=true:=by
 refine List.all_eq_true.2 λj a=>?_
 have a:=List.mem_range.1 a
 show(aN M (X j 0)&&(aN M (X j 1)&&(aN M (X j 2)&&true)))=true
 rw[h j a 0 O,h j a 1 O,h j a 2 O];rfl
def U4{W:World}{b:Nat}{ρ:Env}{H:AH}{w:World}(h:Rel (OX W b) ρ H w):kU W w:=⟨h.os,h.output,λi hi=>(h.gH i (.inl hi)).2⟩
def F4{H:Type}{enc:TypeId×Value->H}{W:World}{sp:Nat->Bool}{ρ:Env}(n:xB ρ W){i:Nat}{r:_}{v:Value}{fuel:Nat}{x:DataW H×List MemPlace}(E:Value.okWide Tryz.prog W r i 24 v)
  (h:DataW.trod enc Tryz.prog W 0 sp true fuel 24 v.cells.toList=Option.some x):∃(e z2 f:Int)(m:Nat)(C:Nat->Nat->Int),VR ρ (.agg [.int M e,.ab m 3 (au C),.int M z2,.int M f]) v/\aN M e=true/\aN M z2=true/\aN M f=true/\aI 3 m (au C)=true:=by
 obtain⟨cs,rfl,o⟩:=okWide_struct Tryz.underlying24 E
 obtain⟨F,k,_,_,_,p,a⟩:=DataW.trod_struct Tryz.underlying24 h
 have hl:cs.toList.length=4:=by rw[Array.length_toList,o];exact c24
 match j:cs.toList,hl,F,p,a with
 |[b,g,c,d],_,[G,I,J,K],_,a=>
  have t:(Value.agg cs).cells.toList=[b,g,c,d]:=j
  have u:DataW.trod enc Tryz.prog W 0 sp true k 3 (([b,g,c,d].drop 0).take (Tryz.prog.cellsOf 3))=Option.some G:=a 0 _ A
  have g1:DataW.trod enc Tryz.prog W 0 sp true k 22 (([b,g,c,d].drop 1).take (Tryz.prog.cellsOf 22))=Option.some I:=a 1 _ A
  have g2:DataW.trod enc Tryz.prog W 0 sp true k 3 (([b,g,c,d].drop 2).take (Tryz.prog.cellsOf 3))=Option.some J:=a 2 _ A
  have g3:DataW.trod enc Tryz.prog W 0 sp true k 3 (([b,g,c,d].drop 3).take (Tryz.prog.cellsOf 3))=Option.some K:=a 3 _ A
  rw[show Tryz.prog.cellsOf 3=1 from c3]at u g2 g3
  rw[show Tryz.prog.cellsOf 22=1 from Zb]at g1
  obtain⟨e,w,_,w0⟩:=DataW.trod_int Tryz.underlying3 u
  obtain⟨z2,y,_,L⟩:=DataW.trod_int Tryz.underlying3 g2
  obtain⟨f,D,_,N⟩:=DataW.trod_int Tryz.underlying3 g3
  have P:b= .int M e:=by have:=congrArg (λl=>List.getD l 0 b) w;exact this
  have Q:c= .int M z2:=by have:=congrArg (λl=>List.getD l 0 c) y;exact this
  have R:d= .int M f:=by have:=congrArg (λl=>List.getD l 0 d) D;exact this
  obtain⟨m,C,q,S⟩:=zy n Tryz.underlying22 Tryz.underlying127 Tryz.underlying3 c3 c127 O g1
  clear w y D
  subst P Q R
  have s:cs=[.int M e,g,.int M z2,.int M f].toArray:=by apply Array.ext';exact j
  refine⟨e,z2,f,m,C,?_,xC w0,xC L,xC N,Xi m C S⟩
  simp only[VR]
  exact⟨_,by rw[s],aU.aL.2 ⟨zB,aU.aL.2 ⟨q,aU.aL.2 ⟨zB,aU.aL.2 ⟨zB,rfl⟩⟩⟩⟩⟩
end
section
open Go.Deep Go.Proofs Go.ChangeShapes Go.WideShapes
open Go.Proofs.YtoijalagmmgkbaaGreatDoor (Rows.answerCountsRow)
def Wu:(II.body 9).isSome=true:=U
def OK{H:Type}{enc:TypeId×Value->H}{W:World}{g:Nat}{args:Array Value}{ds:List (DataW H)}{x:List MemPlace}{sp:Nat->Bool}
  (a:∀(j:Nat) t v,Tryz.f9.params[j]? =Option.some t->args[j]? =Option.some v->Value.okWide Tryz.prog W .any g t v)
  (hA:DataW.TrodAll enc Tryz.prog W 0 sp true Tryz.f9.params.toList args.toList ds x) (hL:laidMetH Tryz.prog Rows.answerCountsRow.laid W):
  Calls Tryz.prog 9 args W λe u=>e= .returned (.bool true)/\kU W u:=by
 rw[Tryz.params9]at hA a
 obtain⟨w,y,S,d1,p0,T,rfl,_,_,i,l⟩:=trodAll_two hA
 obtain⟨b,o,p,ms,d,a1,a2,D⟩:=Kc hL
 have f:=DD W b
 have E:=U3 (OW f hL) (Kd hL) (OU hL) (RW hL) (RX hL) (OV hL) ⟨o,p,ms,d,a1,a2,D⟩
 obtain⟨q,i⟩:=i
 obtain⟨r,l⟩:=l
 obtain⟨F,z2,G,m,C,I,w0,J,U,K⟩:=F4 f (a 0 24 w rfl rfl) i
 obtain⟨L,N,P,rfl⟩:=okWide_slice Tryz.underlying25 (a 1 25 y rfl rfl)
 obtain⟨n,X,r1,hX⟩:=zy f Tryz.underlying25 Tryz.underlying84 Tryz.underlying3 c3 Za O l
 have Q:aU (sk W b) [.agg [.int M F,.ab m 3 (au C),.int M z2,.int M G],.ab n 6 (fm X)] [w,.slice L N P]:=aU.aL.2 ⟨I,aU.aL.2 ⟨r1,rfl⟩⟩
 rcases U6 K J (Xh n X hX) (OX W b) (sk W b) W _ rfl Q E with⟨_,k⟩|⟨v,w',k,_⟩
 ·refine k.mono λe u s=>?_
  cases e with
  |returned v=>
   obtain⟨ρ',_,k1,k2⟩:=s
   simp only[VR]at k2
   exact⟨by rw[k2],U4 k1⟩
  |panicked V=>exact s.elim
  |outgrown=>exact s.elim
 ·exfalso
  obtain⟨⟨c,nt,rs⟩,R⟩:=Option.isSome_iff_exists.1 Wu
  obtain⟨fn,_,_,_,_,h⟩:=iw.body 9 c nt rs R
  rw[h]at k
  cases k
end
end
end Go.Sx
