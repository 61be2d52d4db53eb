/- Lemmas, part 12. -/
import Derived.Test.YtoijalagmmgkbaaGreatDoorX09
import Derived.Test.YtoijalagmmgkbaaGreatDoorX11
set_option linter.all false
set_option linter.defProp false
set_option maxRecDepth 1000000
namespace Go.Sx
open Go
noncomputable section
def uR(n:Nat)(f:Nat->List AV):Bool:=(List.range n).all λi=>match f i with|[.int .u8 x]=>decide (0<=x)&&decide (x<256)|_=>false
def py:List AV->List AV->Bool
 |[],[]=>true
 | .int k i::l,.int a j::m=>decide (k=a)&&decide (i=j)&&py l m
 |_,_=>false
def qE:∀(l m),py l m=true->l=m
 |[],[],_=>rfl
 |[],_::_,h=>by simp[py]at h
 | .int k i::l,.int a j::m,h=>by
  simp only[py,bf,bn]at h
  rw[h.1.1,h.1.2,qE l m h.2]
def af.SE{P I f args a H0 H}(h:af P I f args H0 (.ret a H0))(hn:H0.n=I.G)(d:∀i,I.G<=i->H0.get i= .dead)
  (m:∀i,i<I.G->H0.get i≠ .dead->H.get i=H0.get i/\∀σ,(H0.get i).bD σ=H0.get i) (b:∀σ,bt.bD σ args=args) (ha:∀σ,a.bD σ=a):
  af P I f args H (.ret a H):=by
 intro c ρ w vs hG u j
 have v:I.G<=H.n:=by
  rw[<-hG]
  refine Nat.le_of_not_lt λo=>?_
  obtain⟨N,s⟩:=j.fp H.n o
  rw[j.top _ (dw _)]at s;cases s
 let σ:Nat->Nat:=λl=>if l<I.G then l else H.n+(l-I.G)
 have t:∀i,i<I.G->σ i=i:=λi hi=>Y
 have q:∀i,H0.get i≠ .dead->i<I.G:=Y
 have y:Sub I.G σ H0 H :=
  {lt:=λl hl=>by grind
   ge:=λl hl=>by
    grind
   same:=Y
   inj:=Y
   fp:=ZD
   low:=ZD}
 have ht:Eb σ H0 (CO.ret a H0).heap H H :=
  {n:=by show H.n=H.n+(H0.n-H0.n);omega
   old:=λl hl=>by
    show H.get (σ l)=(H0.get l).bD σ
    grind
   new:=λl hl=>by
    rw[hn]at hl
    have :¬ l<I.G:=Nat.not_lt.2 hl
    show H.get (σ l)=(H0.get l).bD σ
    rw[d l hl]
    simp only[σ,if_neg this]
    rw[j.low _ O]
    rfl
   rest:=λ_ _ _=>rfl}
 have:=h.lift y ht
 rw[b]at this
 have e:(CO.ret a H0).iT σ H= .ret a H:=by
  show CO.ret (a.bD σ) H=_
  rw[ha]
 rw[e]at this
 exact this c ρ w vs hG u j
def bytesRow(l:List UInt8)(i:Nat):uR 64 (λj=>gx l (i+j))=true:=List.all_eq_true.2 λj _=>by
 show(decide (0<=((l.getD (i+j) 0).toNat:Int))&&decide (((l.getD (i+j) 0).toNat:Int)<256))=true
 have:=UInt8.toNat_lt (l.getD (i+j) 0)
 simp only[bf,bn];omega
end
end Go.Sx
