/- The proof of a statement of the seat, part 21. -/
import Derived.Test.YtleifmkjbmhlpaaGreatDoorX20
set_option linter.all false
set_option linter.defProp false
set_option maxRecDepth 1000000
namespace Go.Sx
open Go
open Go.IntKind renaming i64->M
open AH renaming blank->z
noncomputable section
def Rz(Q):kb [] [] 68 [.int M 0,.int M 10] Q=Q (.bM [.agg [.str [48],.str [49]],.int M 0]):=U
def RA(Q):kb [] [] 68 [.int M 1,.int M 10] Q=Q (.bM [.agg [.str [49],.str [49,48]],.int M 0]):=U
def RB(Q):kb [] [] 68 [.int M 2,.int M 10] Q=Q (.bM [.agg [.str [49],.str [53]],.int M 0]):=U
def RC(Q):kb [] [] 68 [.int M 3,.int M 10] Q=Q (.bM [.agg [.str [51],.str [49,48]],.int M 0]):=U
def RD(Q):kb [] [] 68 [.int M 4,.int M 10] Q=Q (.bM [.agg [.str [50],.str [53]],.int M 0]):=U
def RE(Q):kb [] [] 68 [.int M 5,.int M 10] Q=Q (.bM [.agg [.str [49],.str [50]],.int M 0]):=U
def RF(Q):kb [] [] 68 [.int M 6,.int M 10] Q=Q (.bM [.agg [.str [51],.str [53]],.int M 0]):=U
def RG(Q):kb [] [] 68 [.int M 7,.int M 10] Q=Q (.bM [.agg [.str [55],.str [49,48]],.int M 0]):=U
def RH(Q):kb [] [] 68 [.int M 8,.int M 10] Q=Q (.bM [.agg [.str [52],.str [53]],.int M 0]):=U
def RJ(Q):kb [] [] 68 [.int M 9,.int M 10] Q=Q (.bM [.agg [.str [57],.str [49,48]],.int M 0]):=U
def Nr(Q):kb [] [] 68 [.int M 10,.int M 10] Q=Q (.bM [.agg [.str [49],.str [49]],.int M 0]):=U
def RL:af PP II 68 [.int M 0,.int M 10] (z 12) (.ret (.bM [.agg [.str [48],.str [49]],.int M 0]) (z 12)):=by
 refine bQ (ks:=[]) (T:=[]) (λ_=>⟨⟨rfl,rfl,trivial⟩,⟨rfl,rfl⟩,trivial⟩) ?_;rw[Rz]
def RM:af PP II 68 [.int M 1,.int M 10] (z 12) (.ret (.bM [.agg [.str [49],.str [49,48]],.int M 0]) (z 12)):=by
 refine bQ (ks:=[]) (T:=[]) (λ_=>⟨⟨rfl,rfl,trivial⟩,⟨rfl,rfl⟩,trivial⟩) ?_;rw[RA]
def RN:af PP II 68 [.int M 2,.int M 10] (z 12) (.ret (.bM [.agg [.str [49],.str [53]],.int M 0]) (z 12)):=by
 refine bQ (ks:=[]) (T:=[]) (λ_=>⟨⟨rfl,rfl,trivial⟩,⟨rfl,rfl⟩,trivial⟩) ?_;rw[RB]
def RO:af PP II 68 [.int M 3,.int M 10] (z 12) (.ret (.bM [.agg [.str [51],.str [49,48]],.int M 0]) (z 12)):=by
 refine bQ (ks:=[]) (T:=[]) (λ_=>⟨⟨rfl,rfl,trivial⟩,⟨rfl,rfl⟩,trivial⟩) ?_;rw[RC]
def RP:af PP II 68 [.int M 4,.int M 10] (z 12) (.ret (.bM [.agg [.str [50],.str [53]],.int M 0]) (z 12)):=by
 refine bQ (ks:=[]) (T:=[]) (λ_=>⟨⟨rfl,rfl,trivial⟩,⟨rfl,rfl⟩,trivial⟩) ?_;rw[RD]
def RQ:af PP II 68 [.int M 5,.int M 10] (z 12) (.ret (.bM [.agg [.str [49],.str [50]],.int M 0]) (z 12)):=by
 refine bQ (ks:=[]) (T:=[]) (λ_=>⟨⟨rfl,rfl,trivial⟩,⟨rfl,rfl⟩,trivial⟩) ?_;rw[RE]
def RR:af PP II 68 [.int M 6,.int M 10] (z 12) (.ret (.bM [.agg [.str [51],.str [53]],.int M 0]) (z 12)):=by
 refine bQ (ks:=[]) (T:=[]) (λ_=>⟨⟨rfl,rfl,trivial⟩,⟨rfl,rfl⟩,trivial⟩) ?_;rw[RF]
def RS:af PP II 68 [.int M 7,.int M 10] (z 12) (.ret (.bM [.agg [.str [55],.str [49,48]],.int M 0]) (z 12)):=by
 refine bQ (ks:=[]) (T:=[]) (λ_=>⟨⟨rfl,rfl,trivial⟩,⟨rfl,rfl⟩,trivial⟩) ?_;rw[RG]
def RT:af PP II 68 [.int M 8,.int M 10] (z 12) (.ret (.bM [.agg [.str [52],.str [53]],.int M 0]) (z 12)):=by
 refine bQ (ks:=[]) (T:=[]) (λ_=>⟨⟨rfl,rfl,trivial⟩,⟨rfl,rfl⟩,trivial⟩) ?_;rw[RH]
def RU:af PP II 68 [.int M 9,.int M 10] (z 12) (.ret (.bM [.agg [.str [57],.str [49,48]],.int M 0]) (z 12)):=by
 refine bQ (ks:=[]) (T:=[]) (λ_=>⟨⟨rfl,rfl,trivial⟩,⟨rfl,rfl⟩,trivial⟩) ?_;rw[RJ]
def Ns:af PP II 68 [.int M 10,.int M 10] (z 12) (.ret (.bM [.agg [.str [49],.str [49]],.int M 0]) (z 12)):=by
 refine bQ (ks:=[]) (T:=[]) (λ_=>⟨⟨rfl,rfl,trivial⟩,⟨rfl,rfl⟩,trivial⟩) ?_;rw[Nr]
def zj(k:Nat):List UInt8:=match k with|0=>[48]|1=>[49]|2=>[49]|3=>[51]|4=>[50]|5=>[49]|6=>[51]|7=>[55]|8=>[52]|9=>[57]|10=>[49]|_=>[]
def zk(k:Nat):List UInt8:=match k with|0=>[49]|1=>[49,48]|2=>[53]|3=>[49,48]|4=>[53]|5=>[50]|6=>[53]|7=>[49,48]|8=>[53]|9=>[49,48]|10=>[49]|_=>[]
def Vt{k:Nat}(a:k<=10):af PP II 68 [.int M k,.int M 10] (z 12) (.ret (.bM [.agg [.str (zj k),.str (zk k)],.int M 0]) (z 12)):=by
 match k,a with
 |0,_=>exact RL
 |1,_=>exact RM
 |2,_=>exact RN
 |3,_=>exact RO
 |4,_=>exact RP
 |5,_=>exact RQ
 |6,_=>exact RR
 |7,_=>exact RS
 |8,_=>exact RT
 |9,_=>exact RU
 |10,_=>exact Ns
 |k+11,h=>omega
def KU:ax PP II:=ax.pure 68
 (λX args a=>match args with
  |[.int M k,.int M d]=>X.ag (decide (0<=k)&&decide (k<=10)&&decide (d=10)) (a (.bM [.agg [.str (zj k.toNat),.str (zk k.toNat)],.int M 0]))
  |_=>X.fail)
 λX sem hX args a h=>by
  split at h
  ·rename_i k d;obtain⟨b,c⟩:=hX.ag _ _ h;simp only[ba,bl]at b;obtain⟨⟨h3,h4⟩,e⟩:=b;have:=Vt (k:=k.toNat) O;rw[Int.toNat_of_nonneg h3]at this;rw[e];exact⟨_,c,λ_=>rfl,λ_=>rfl,this⟩
  ·exact zR
end
end Go.Sx
