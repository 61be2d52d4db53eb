/- Lemmas, part 38. -/
import Derived.Test.YtoijalagmmgkbaaGreatDoorX37
set_option linter.all false
set_option linter.defProp false
section
set_option maxRecDepth 100000
namespace Go.Sx
open Go Go.Sort Go.Shelf Go.Proofs
structure ZI (Y1:bj) (i:Nat):Prop where
 lt:∀a,a<Y1.m->Y1.T a<i
 up:∀a b,a<b->b<Y1.m->Y1.T a<Y1.T b
theorem YJ(q:Query)(F:Nat->ay):∀i j,j<(aV q F i).length->ZI (aK (aV q F i) j) i
 |0,j,d=>absurd d (by simp[aV])
 |i+1,l,hl=>by
  have k:=YJ q F i
  have c:∀j,j<(aV q F i).length->ZI (aK (aV q F i) j) (i+1:Nat):=λj d=>⟨λa ha=>by have:=(k j d).lt a ha;omega,(k j d).up⟩
  revert hl
  show l<(km q (aV q F i) i (F i)).length->ZI (aK (km q (aV q F i) i (F i)) l) (i+1:Nat)
  unfold km
  cases gk q (F i)with
  |false=>exact c l
  |true=>
   simp only[cond_true]
   split
   ·rename_i j o
    obtain⟨d,_⟩:=lF o
    intro hl
    rw[List.length_set]at hl
    rw[gg d]
    by_cases h:l=j
    ·rw[if_pos h]
     obtain⟨n,p⟩:=k j d
     have old:∀a,a<(aK (aV q F i) j).m->gV (aK (aV q F i) j).T (aK (aV q F i) j).m (i:Int) a=(aK (aV q F i) j).T a:=λa ha=>by
      unfold gV
      rw[if_neg O]
     have new:gV (aK (aV q F i) j).T (aK (aV q F i) j).m (i:Int) (aK (aV q F i) j).m=i:=by
      unfold gV
      rw[if_pos A]
     refine⟨λa ha=>?_,λa b f g=>?_⟩
     ·have ha:a<(aK (aV q F i) j).m+1:=ha
      show gV _ _ _ a<_
      by_cases e:a=(aK (aV q F i) j).m
      ·rw[e,new];omega
      ·rw[old a O];have:=n a O;omega
     ·have g:b<(aK (aV q F i) j).m+1:=g
      show gV _ _ _ a<gV _ _ _ b
      rw[old a O]
      by_cases e:b=(aK (aV q F i) j).m
      ·rw[e,new];exact n a O
      ·rw[old b O];exact p a b f O
    ·rw[if_neg h];exact c l hl
   ·intro hl
    rw[gh]
    by_cases h:l=(aV q F i).length
    ·rw[if_pos h]
     refine⟨λa _=>?_,λa b f g=>?_⟩
     ·show(i:Int)<(i+1:Nat);omega
     ·have g:b<1:=g
      omega
    ·rw[if_neg h];exact c l (by simp at hl;omega)
end Go.Sx
end
section
set_option maxRecDepth 100000
namespace Go.Sx
open Go Go.Sort Go.Shelf Go.Proofs
structure Full (e:Query) (b:Nat->ay) (gs:List bj) (i:Nat):Prop where
 list:∀c,c<gs.length->(List.range (aK gs c).m).map (λa=>((aK gs c).T a).toNat)=(List.range i).filter λf=>gk e (b f)&&decide (FA e (b f)=(aK gs c).key)
 all:∀f,f<i->gk e (b f)=true->∃c,c<gs.length/\(aK gs c).key=FA e (b f)
theorem uG(p)(i):(List.range (i+1)).filter p=(List.range i).filter p++if p i=true then [i]else []:=by
 rw[List.range_succ,List.filter_append]
 grind
theorem Dl(q)(F):∀i,Full q F (aV q F i) i
 |0=>⟨λj b=>by rfl,O⟩
 |i+1=>by
  obtain⟨g,p⟩:=Dl q F i
  have r:=tj q F i
  show Full q F (km q (aV q F i) i (F i)) (i+1)
  unfold km
  cases hm:gk q (F i)with
  |false=>
   refine⟨λj b=>?_,λf d k=>?_⟩
   ·rw[uG,if_neg (by rw[hm];simp),List.append_nil];exact g j b
   grind
  |true=>
   simp only[cond_true]
   split
   ·rename_i j d
    obtain⟨b,n⟩:=lF d
    have n:(aK (aV q F i) j).key=FA q (F i):=n
    refine⟨λl hl=>?_,λf o k=>?_⟩
    ·rw[List.length_set]at hl
     rw[gg b,uG]
     by_cases h:l=j
     ·rw[if_pos h]
      have e1:=g j b
      show(List.range ((aK (aV q F i) j).m+1)).map (λa=>(gV (aK (aV q F i) j).T (aK (aV q F i) j).m (i:Int) a).toNat)=(List.range i).filter (λf=>gk q (F f)&&decide (FA q (F f)=(aK (aV q F i) j).key))++if(gk q (F i)&&decide (FA q (F i)=(aK (aV q F i) j).key))=true then [i]else []
      rw[if_pos (by rw[hm,n];simp),<-e1,List.range_succ,List.map_append]
      congr 1
      ·refine List.map_congr_left λa ha=>?_
       have:=List.mem_range.1 ha
       unfold gV
       omega
      ·show [(gV _ _ _ _).toNat]=[i]
       unfold gV
       rw[if_pos A];rfl
     ·rw[if_neg h,g l hl,if_neg (λc=>?_),List.append_nil]
      rw[hm,Bool.true_and,bn]at c
      exact r.apart l j hl b h Y
    ·have gH:∀l,l<(aV q F i).length->(aK ((aV q F i).set j {key:=(aK (aV q F i) j).key,W:=(aK (aV q F i) j).W,m:=(aK (aV q F i) j).m+1,L:=gV (aK (aV q F i) j).L (aK (aV q F i) j).m (kR q (F i)),G:=gV (aK (aV q F i) j).G (aK (aV q F i) j).m (lJ q (F i)),C:=uj (aK (aV q F i) j).C (aK (aV q F i) j).m (Br q (F i)),T:=gV (aK (aV q F i) j).T (aK (aV q F i) j).m (i:Int)}) l).key=(aK (aV q F i) l).key:=λl hl=>by
      rw[gg b]
      grind
     grind
   ·rename_i d
    have no:=xc d
    refine⟨λl hl=>?_,λf o k=>?_⟩
    ·rw[gh,uG]
     by_cases h:l=(aV q F i).length
     ·rw[if_pos h]
      show(List.range 1).map (λ_=>(i:Int).toNat)=(List.range i).filter (λf=>gk q (F f)&&decide (FA q (F f)=FA q (F i)))++if(gk q (F i)&&decide (FA q (F i)=FA q (F i)))=true then [i]else []
      rw[if_pos (by rw[hm];simp),List.filter_eq_nil_iff.2 λf d c=>?_]
      ·rfl
      grind
     ·have hl:l<(aV q F i).length:=by simp at hl;omega
      rw[if_neg h,g l hl,if_neg (λc=>?_),List.append_nil]
      grind
    ·by_cases e:f=i
     ·refine⟨(aV q F i).length,zA,?_⟩
      rw[gh,if_pos A,e]
     ·obtain⟨l,l1,l2⟩:=p f O k
      refine⟨l,by simp;omega,?_⟩
      rw[gh,if_neg O];exact l2
def WA(q:Query)(W:Nat->Int)(x:ay):Bool:=A9 q.ng (aj q x) W
theorem V4{q F i j}(c:q.ng<=3)(b:j<(aV q F i).length)(x):decide (FA q x=(aK (aV q F i) j).key)=WA q (aK (aV q F i) j).W x:=by
 rw[(tj q F i).key j b]
 generalize (aK (aV q F i) j).W=W
 have one:∀a,((bif Nat.blt a q.ng then aj q x a else 0)=bif Nat.blt a q.ng then W a else 0)↔(a<q.ng->aj q x a=W a):=λa=>by
  by_cases h:a<q.ng
  ·rw[eV h,cond_true,cond_true];omega
  ·rw[js h];grind
 refine Bool.eq_iff_iff.2 ?_
 unfold WA A9 FA
 grind
theorem adq{q W V}(h:A9 q.ng W V=true)(x):WA q W x=WA q V x:=by
 have e:∀a,a<q.ng->W a=V a:=λa ha=>pT (List.all_eq_true.1 h a (List.mem_range.2 ha))
 unfold WA A9
 grind
def Ps(n g:Nat)(K:Nat->Nat->Int)(W:Nat->Int):Option Nat:=(List.range n).find? λj=>A9 g (K j) W
end Go.Sx
end
section
set_option maxRecDepth 1000000
namespace Go.Sx
open Go
def aaC:List AV:=[.aw,.str [],.str [],.str [],.str [],.str [],.str [],.str [],.str []]
end Go.Sx
end
section
set_option maxRecDepth 1000000
namespace Go.Sx
open Go
end Go.Sx
end
section
set_option maxRecDepth 1000000
namespace Go.Sx
open Go
def Et(nw:Nat)(f:Nat->List AV)(ng:Nat)(g:Nat->List AV)(a fl:Int)(nu de:List UInt8)(top:Int):Query:=⟨nw,bG f,ng,λj=>bV (g j) 0,a,fl,nu,de,top⟩
def ad4(RN:Int->Nat)(RA:Int->Nat->Nat->Int)(RB:Int->Nat->Nat->List UInt8)(nw:Nat)(f:Nat->List AV)(ng:Nat)(g:Nat->List AV)(a fl:Int)(nu de:List UInt8)(top:Int)(k:Nat)(h:Nat->List AV):Prop :=
 (aI 3 nw f=true/\aI 1 ng g=true/\Hl (Et nw f ng g a fl nu de top)=true/\fh k h=true/\cX k (bP h)=true)/\r8 (Et nw f ng g a fl nu de top) k (bP h)=RN top/\FM (Et nw f ng g a fl nu de top) k (bP h)=RA top/\oU (Et nw f ng g a fl nu de top) k (bP h)=RB top
theorem adr{nw:Nat}{f:Nat->List AV}{ng:Nat}{g:Nat->List AV}{a fl:Int}{nu de:List UInt8}{top:Int}(a1:aI 3 nw f=true)(a2:aI 1 ng g=true)(b:Hl (Et nw f ng g a fl nu de top)=true):
  toQ [.ab nw 3 f,.ab ng 1 g,.int .i64 a,.int .i64 fl,.str nu,.str de,.int .i64 top]=some (Et nw f ng g a fl nu de top)/\oA [.ab nw 3 f,.ab ng 1 g,.int .i64 a,.int .i64 fl,.str nu,.str de,.int .i64 top]=true/\ct (Et nw f ng g a fl nu de top)=true:=by
 have hq:toQ [.ab nw 3 f,.ab ng 1 g,.int .i64 a,.int .i64 fl,.str nu,.str de,.int .i64 top]=some (Et nw f ng g a fl nu de top):=rfl
 have hi:oA [.ab nw 3 f,.ab ng 1 g,.int .i64 a,.int .i64 fl,.str nu,.str de,.int .i64 top]=true:=by
  show(aI 3 nw f&&aI 1 ng g)=true
  rw[a1,a2];rfl
 obtain⟨r1,c⟩:=Xn hq hi
 exact⟨hq,hi,by unfold ct;rw[r1,c,b];rfl⟩
end Go.Sx
end
section
set_option maxRecDepth 1000000
namespace Go.Sx
open Go
end Go.Sx
end
section
set_option maxRecDepth 1000000
namespace Go.Sx
open Go
end Go.Sx
end
section
set_option maxRecDepth 1000000
namespace Go.Sx
open Go
end Go.Sx
end
section
set_option maxRecDepth 1000000
namespace Go.Sx
open Go
end Go.Sx
end
