/- Lemmas, part 44. -/
import Derived.Test.YtoijalagmmgkbaaGreatDoorX43
set_option linter.all false
set_option linter.defProp false
set_option maxRecDepth 1000000
namespace Go.Sx
open Go
open Go.IntKind renaming i64->M
noncomputable section
section
open Go.Deep Go.Proofs Go.ChangeShapes Go.WideShapes
open Go.Proofs.YtoijalagmmgkbaaGreatDoor (Rows.answerContainsRow)
def Xh(n:Nat)(X:Nat->Nat->Int)(h:∀j,j<n->∀k,k<6->aN M (X j k)=true):aI 6 n (fm X)=true:=by
 refine List.all_eq_true.2 λj a=>?_
 have a:=List.mem_range.1 a
 show(aN M (X j 0)&&(aN M (X j 1)&&(aN M (X j 2)&&(aN M (X j 3)&&(aN M (X j 4)&&(aN M (X j 5)&&true))))))=true
 rw[h j a 0 O,h j a 1 O,h j a 2 O,h j a 3 O,h j a 4 O,h j a 5 O];rfl
def Xi(n:Nat)(X:Nat->Nat->Int)(h:∀j,j<n->∀k,k<3->aN M (X j k)=true):aI 3 n (au X)=true:=by
 refine List.all_eq_true.2 λj a=>?_
 have a:=List.mem_range.1 a
 show(aN M (X j 0)&&(aN M (X j 1)&&(aN M (X j 2)&&true)))=true
 rw[h j a 0 O,h j a 1 O,h j a 2 O];rfl
def ad7(n:Nat)(W:Nat->Int)(h:∀j,j<n->aN M (W j)=true):intsIn n (ae W)=true:=by
 unfold intsIn
 rw[kc,Bool.true_and]
 exact List.all_eq_true.2 λj a=>h j (List.mem_range.1 a)
def U4{W:World}{b:Nat}{ρ:Env}{H:AH}{w:World}(h:Rel (OX W b) ρ H w):kU W w:=⟨h.os,h.output,λi hi=>(h.gH i (.inl hi)).2⟩
def F4{H:Type}{enc:TypeId×Value->H}{W:World}{sp:Nat->Bool}{ρ:Env}(n:xB ρ W){i:Nat}{r:_}{v:Value}{fuel:Nat}{x:DataW H×List MemPlace}(D:Value.okWide Tryz.prog W r i 24 v)
  (h:DataW.trod enc Tryz.prog W 0 sp true fuel 24 v.cells.toList=Option.some x):∃(z0 e f:Int)(m:Nat)(C:Nat->Nat->Int),VR ρ (.agg [.int M z0,.ab m 3 (au C),.int M e,.int M f]) v/\aN M z0=true/\aN M e=true/\aN M f=true/\aI 3 m (au C)=true:=by
 obtain⟨cs,rfl,o⟩:=okWide_struct Tryz.underlying24 D
 obtain⟨E,k,_,_,_,p,a⟩:=DataW.trod_struct Tryz.underlying24 h
 have hl:cs.toList.length=4:=by rw[Array.length_toList,o];exact c24
 match j:cs.toList,hl,E,p,a with
 |[b,g,c,d],_,[F,x1,x2,G],_,a=>
  have t:(Value.agg cs).cells.toList=[b,g,c,d]:=j
  have u:DataW.trod enc Tryz.prog W 0 sp true k 3 (([b,g,c,d].drop 0).take (Tryz.prog.cellsOf 3))=Option.some F:=a 0 _ A
  have g1:DataW.trod enc Tryz.prog W 0 sp true k 22 (([b,g,c,d].drop 1).take (Tryz.prog.cellsOf 22))=Option.some x1:=a 1 _ A
  have g2:DataW.trod enc Tryz.prog W 0 sp true k 3 (([b,g,c,d].drop 2).take (Tryz.prog.cellsOf 3))=Option.some x2:=a 2 _ A
  have g3:DataW.trod enc Tryz.prog W 0 sp true k 3 (([b,g,c,d].drop 3).take (Tryz.prog.cellsOf 3))=Option.some G:=a 3 _ A
  rw[show Tryz.prog.cellsOf 3=1 from c3]at u g2 g3
  rw[show Tryz.prog.cellsOf 22=1 from Zb]at g1
  obtain⟨z0,w,_,w0⟩:=DataW.trod_int Tryz.underlying3 u
  obtain⟨e,y,_,I⟩:=DataW.trod_int Tryz.underlying3 g2
  obtain⟨f,B,_,J⟩:=DataW.trod_int Tryz.underlying3 g3
  have K:b= .int M z0:=by have:=congrArg (λl=>List.getD l 0 b) w;exact this
  have L:c= .int M e:=by have:=congrArg (λl=>List.getD l 0 c) y;exact this
  have N:d= .int M f:=by have:=congrArg (λl=>List.getD l 0 d) B;exact this
  obtain⟨m,C,q,P⟩:=zy n Tryz.underlying22 Tryz.underlying127 Tryz.underlying3 c3 c127 O g1
  clear w y B
  subst K L N
  have s:cs=[.int M z0,g,.int M e,.int M f].toArray:=by apply Array.ext';exact j
  refine⟨z0,e,f,m,C,?_,xC w0,xC I,xC J,Xi m C P⟩
  simp only[VR]
  exact⟨_,by rw[s],aU.aL.2 ⟨zB,aU.aL.2 ⟨q,aU.aL.2 ⟨zB,aU.aL.2 ⟨zB,rfl⟩⟩⟩⟩⟩
end
section
open Go.Deep Go.Proofs Go.ChangeShapes Go.WideShapes
open Go.Proofs.YtoijalagmmgkbaaGreatDoor (Rows.answerSampledRow)
def ad8:(II.body 5).isSome=true:=U
def adW{H:Type}{enc:TypeId×Value->H}{W:World}{g:Nat}{args:Array Value}{ds:List (DataW H)}{B:List MemPlace}{sp:Nat->Bool}
  (a:∀(j:Nat) t v,Tryz.f5.params[j]? =Option.some t->args[j]? =Option.some v->Value.okWide Tryz.prog W .any g t v)
  (hA:DataW.TrodAll enc Tryz.prog W 0 sp true Tryz.f5.params.toList args.toList ds B) (hL:laidMetH Tryz.prog Rows.answerSampledRow.laid W):
  Calls Tryz.prog 5 args W λe x=>e= .returned (.bool true)/\kU W x:=by
 rw[Tryz.params5]at hA a
 obtain⟨y,D,E,d0,d1,d2,p0,p1,p2,rfl,_,_,i,l,o⟩:=trodAll_three hA
 obtain⟨b,p,q,ms,f,a1,a2,F⟩:=Kc hL
 have d:=DD W b
 have G:=U3 (OW d hL) (Kd hL) (OU hL) (RW hL) (RX hL) (OV hL) ⟨p,q,ms,f,a1,a2,F⟩
 obtain⟨r,i⟩:=i
 obtain⟨s,l⟩:=l
 obtain⟨u,o⟩:=o
 obtain⟨z0,I,J,m,C,K,w0,L,N,P⟩:=F4 d (a 0 24 y rfl rfl) i
 obtain⟨sa,Q,R,rfl⟩:=okWide_slice Tryz.underlying25 (a 1 25 D rfl rfl)
 obtain⟨S,T,U,rfl⟩:=okWide_slice Tryz.underlying26 (a 2 26 E rfl rfl)
 obtain⟨n,X,r1,hX⟩:=zy d Tryz.underlying25 Tryz.underlying84 Tryz.underlying3 c3 Za O l
 obtain⟨k,V,Y,hV⟩:=open_ints d Tryz.underlying26 Tryz.underlying3 c3 o
 have Z:aU (sk W b) [.agg [.int M z0,.ab m 3 (au C),.int M I,.int M J],.ab n 6 (fm X),.ab k 1 (ae V)] [y,.slice sa Q R,.slice S T U]:=aU.aL.2 ⟨K,aU.aL.2 ⟨r1,aU.aL.2 ⟨Y,rfl⟩⟩⟩
 rcases acY P w0 L N (Xh n X hX) (ad7 k V hV) (OX W b) (sk W b) W _ rfl Z G with⟨_,k⟩|⟨v,w',k,_⟩
 ·refine k.mono λe x w=>?_
  cases e with
  |returned v=>
   obtain⟨ρ',_,k1,k2⟩:=w
   simp only[VR]at k2
   exact⟨by rw[k2],U4 k1⟩
  |panicked ch=>exact w.elim
  |outgrown=>exact w.elim
 ·exfalso
  obtain⟨⟨c,nt,rs⟩,hb⟩:=Option.isSome_iff_exists.1 ad8
  obtain⟨fn,_,_,_,_,h⟩:=Hs.body 5 c nt rs hb
  rw[h]at k
  cases k
end
end
end Go.Sx
