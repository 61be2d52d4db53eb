/- The proof of a statement of the seat, part 14. -/
import Derived.Test.YtoijalagmmgkbaaGreatDoorX11
import Derived.Test.YtoijalagmmgkbaaGreatDoorX13
import Derived.Test.YtoijalagmmgkbaaGreatDoorX08
set_option linter.all false
set_option linter.defProp false
set_option maxRecDepth 1000000
namespace Go.Sx
open Go
open Nat renaming lt_of_le_of_lt->B,shiftRight_eq_div_pow->z,div_le_self->b_,mod_lt->c_
noncomputable section
def TL{x n:Nat}(hx:x<4294967296):Iy.Ak x n<4294967296 :=
 Nat.or_lt_two_pow (n:=32) (by show x>>>n<_;rw[z];exact B (b_ _ _) hx) (c_ _ O)
def Bq(n:Nat):Prop:=n<4294967296
def Bq.xor{a b:Nat}(h:Bq a)(k:Bq b):Bq (Nat.xor a b):=Nat.xor_lt_two_pow (n:=32) h k
def Bq.and{a b:Nat}(h:Bq a):Bq (Nat.land a b):=B Nat.and_le_left h
def Bq.Ak{a n:Nat}(h:Bq a):Bq (Iy.Ak a n):=TL h
def Bq.add{a b:Nat}:Bq (Iy.ij a b):=c_ _ O
def Bq.shr{a:Nat}(h:Bq a)(k:Nat):Bq (a>>>k):=by
 show a>>>k<_
 rw[z];exact B (b_ _ _) h
def uR(n:Nat)(f:Nat->List AV):Bool:=(List.range n).all λi=>match f i with|[.int .u8 x]=>decide (0<=x)&&decide (x<256)|_=>false
def py:List AV->List AV->Bool
 |[],[]=>true
 | .int k i::l,.int a j::m=>decide (k=a)&&decide (i=j)&&py l m
 |_,_=>false
def qE:∀(l m:List AV),py l m=true->l=m
 |[],[],_=>rfl
 |[],_::_,h=>by simp[py]at h
 | .int k i::l,.int a j::m,h=>by
  simp only[py,bf,bn]at h
  rw[h.1.1,h.1.2,qE l m h.2]
def af.SE{P:Program}{I:ba}{f:FuncId}{args:List AV}{a:AV}{H0 H:AH}(h:af P I f args H0 (.ret a H0))(q:H0.n=I.G)(m:∀i,I.G<=i->H0.get i= .dead)
  (j:∀i,i<I.G->H0.get i≠ .dead->H.get i=H0.get i/\∀σ,(H0.get i).bD σ=H0.get i) (o:∀σ,bt.bD σ args=args) (ha:∀σ,a.bD σ=a):
  af P I f args H (.ret a H):=by
 intro c ρ w vs hG C s
 have D:I.G<=H.n:=by
  rw[<-hG]
  refine Nat.le_of_not_lt λt=>?_
  obtain⟨N,u⟩:=s.fp H.n t
  rw[s.top _ (dw _)]at u;cases u
 let σ:Nat->Nat:=λl=>if l<I.G then l else H.n+(l-I.G)
 have d:∀i,i<I.G->σ i=i:=λi hi=>by simp only[σ,if_pos hi]
 have b:∀i,H0.get i≠ .dead->i<I.G:=λi hi=>Nat.lt_of_not_le λe=>hi (m i e)
 have E:Sub I.G σ H0 H :=
  {lt:=λl hl=>by rw[q]at hl;rw[d l hl];omega
   ge:=λl hl=>by
    rw[q]at hl⊢
    have :¬ l<I.G:=Nat.not_lt.2 hl
    simp only[σ,if_neg this]
   same:=λl hl=>by rw[d l (b l hl),(j l (b l hl) hl).2,(j l (b l hl) hl).1]
   inj:=λl v F J e=>by rw[d l (b l F),d v (b v J)]at e;exact e
   fp:=λg y=>⟨by rw[q];exact y,d g y⟩
   low:=λl hl=>m l (by rw[q]at hl;exact hl)}
 have ht:Eb σ H0 (CO.ret a H0).heap H H :=
  {n:=by show H.n=H.n+(H0.n-H0.n);omega
   old:=λl hl=>by
    show H.get (σ l)=(H0.get l).bD σ
    rw[d l (b l hl),(j l (b l hl) hl).2,(j l (b l hl) hl).1]
   new:=λl hl=>by
    rw[q]at hl
    have :¬ l<I.G:=Nat.not_lt.2 hl
    show H.get (σ l)=(H0.get l).bD σ
    rw[m l hl]
    simp only[σ,if_neg this]
    rw[s.low _ O]
    rfl
   rest:=λ_ _ _=>rfl}
 have:=h.lift E ht
 rw[o]at this
 have e:(CO.ret a H0).iT σ H= .ret a H:=by
  show CO.ret (a.bD σ) H=_
  rw[ha]
 rw[e]at this
 exact this c ρ w vs hG C s
def bytesRow(l:List UInt8)(i:Nat):uR 64 (λj=>gx l (i+j))=true:=List.all_eq_true.2 λj _=>by
 show(decide (0<=((l.getD (i+j) 0).toNat:Int))&&decide (((l.getD (i+j) 0).toNat:Int)<256))=true
 have:=UInt8.toNat_lt (l.getD (i+j) 0)
 simp only[bf,bn];omega
end
end Go.Sx
