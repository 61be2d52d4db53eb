/- Lemmas, part 17. -/
import Derived.Test.YtoijalagmmgkbaaGreatDoorX13
set_option linter.all false
set_option linter.defProp false
set_option maxRecDepth 1000000
namespace Go.Sx
open Go
open Go.IntKind renaming i64->M
open AH renaming blank->z
noncomputable section
def Ms(Q):kb [] [] 86 [.int M 0,.int M 10] Q=Q (.qP [.agg [.str [48],.str [49]],.int M 0]):=U
def Mt(Q):kb [] [] 86 [.int M 1,.int M 10] Q=Q (.qP [.agg [.str [49],.str [49,48]],.int M 0]):=U
def Mu(Q):kb [] [] 86 [.int M 2,.int M 10] Q=Q (.qP [.agg [.str [49],.str [53]],.int M 0]):=U
def Mv(Q):kb [] [] 86 [.int M 3,.int M 10] Q=Q (.qP [.agg [.str [51],.str [49,48]],.int M 0]):=U
def Mw(Q):kb [] [] 86 [.int M 4,.int M 10] Q=Q (.qP [.agg [.str [50],.str [53]],.int M 0]):=U
def Mx(Q):kb [] [] 86 [.int M 5,.int M 10] Q=Q (.qP [.agg [.str [49],.str [50]],.int M 0]):=U
def My(Q):kb [] [] 86 [.int M 6,.int M 10] Q=Q (.qP [.agg [.str [51],.str [53]],.int M 0]):=U
def Mz(Q):kb [] [] 86 [.int M 7,.int M 10] Q=Q (.qP [.agg [.str [55],.str [49,48]],.int M 0]):=U
def MA(Q):kb [] [] 86 [.int M 8,.int M 10] Q=Q (.qP [.agg [.str [52],.str [53]],.int M 0]):=U
def MB(Q):kb [] [] 86 [.int M 9,.int M 10] Q=Q (.qP [.agg [.str [57],.str [49,48]],.int M 0]):=U
def IZ(Q):kb [] [] 86 [.int M 10,.int M 10] Q=Q (.qP [.agg [.str [49],.str [49]],.int M 0]):=U
def MC:af PP II 86 [.int M 0,.int M 10] (z 12) (.ret (.qP [.agg [.str [48],.str [49]],.int M 0]) (z 12)):=by
 refine bY (ks:=[]) (T:=[]) (λ_=>⟨⟨rfl,rfl,trivial⟩,⟨rfl,rfl⟩,trivial⟩) ?_
 rw[Ms]
def MD:af PP II 86 [.int M 1,.int M 10] (z 12) (.ret (.qP [.agg [.str [49],.str [49,48]],.int M 0]) (z 12)):=by
 refine bY (ks:=[]) (T:=[]) (λ_=>⟨⟨rfl,rfl,trivial⟩,⟨rfl,rfl⟩,trivial⟩) ?_
 rw[Mt]
def aa8:af PP II 86 [.int M 2,.int M 10] (z 12) (.ret (.qP [.agg [.str [49],.str [53]],.int M 0]) (z 12)):=by
 refine bY (ks:=[]) (T:=[]) (λ_=>⟨⟨rfl,rfl,trivial⟩,⟨rfl,rfl⟩,trivial⟩) ?_
 rw[Mu]
def aa9:af PP II 86 [.int M 3,.int M 10] (z 12) (.ret (.qP [.agg [.str [51],.str [49,48]],.int M 0]) (z 12)):=by
 refine bY (ks:=[]) (T:=[]) (λ_=>⟨⟨rfl,rfl,trivial⟩,⟨rfl,rfl⟩,trivial⟩) ?_
 rw[Mv]
def MG:af PP II 86 [.int M 4,.int M 10] (z 12) (.ret (.qP [.agg [.str [50],.str [53]],.int M 0]) (z 12)):=by
 refine bY (ks:=[]) (T:=[]) (λ_=>⟨⟨rfl,rfl,trivial⟩,⟨rfl,rfl⟩,trivial⟩) ?_
 rw[Mw]
def MH:af PP II 86 [.int M 5,.int M 10] (z 12) (.ret (.qP [.agg [.str [49],.str [50]],.int M 0]) (z 12)):=by
 refine bY (ks:=[]) (T:=[]) (λ_=>⟨⟨rfl,rfl,trivial⟩,⟨rfl,rfl⟩,trivial⟩) ?_
 rw[Mx]
def MI:af PP II 86 [.int M 6,.int M 10] (z 12) (.ret (.qP [.agg [.str [51],.str [53]],.int M 0]) (z 12)):=by
 refine bY (ks:=[]) (T:=[]) (λ_=>⟨⟨rfl,rfl,trivial⟩,⟨rfl,rfl⟩,trivial⟩) ?_
 rw[My]
def MJ:af PP II 86 [.int M 7,.int M 10] (z 12) (.ret (.qP [.agg [.str [55],.str [49,48]],.int M 0]) (z 12)):=by
 refine bY (ks:=[]) (T:=[]) (λ_=>⟨⟨rfl,rfl,trivial⟩,⟨rfl,rfl⟩,trivial⟩) ?_
 rw[Mz]
def MK:af PP II 86 [.int M 8,.int M 10] (z 12) (.ret (.qP [.agg [.str [52],.str [53]],.int M 0]) (z 12)):=by
 refine bY (ks:=[]) (T:=[]) (λ_=>⟨⟨rfl,rfl,trivial⟩,⟨rfl,rfl⟩,trivial⟩) ?_
 rw[MA]
def ML:af PP II 86 [.int M 9,.int M 10] (z 12) (.ret (.qP [.agg [.str [57],.str [49,48]],.int M 0]) (z 12)):=by
 refine bY (ks:=[]) (T:=[]) (λ_=>⟨⟨rfl,rfl,trivial⟩,⟨rfl,rfl⟩,trivial⟩) ?_
 rw[MB]
def I0:af PP II 86 [.int M 10,.int M 10] (z 12) (.ret (.qP [.agg [.str [49],.str [49]],.int M 0]) (z 12)):=by
 refine bY (ks:=[]) (T:=[]) (λ_=>⟨⟨rfl,rfl,trivial⟩,⟨rfl,rfl⟩,trivial⟩) ?_
 rw[IZ]
def wy(k:Nat):List UInt8:=match k with|0=>[48]|1=>[49]|2=>[49]|3=>[51]|4=>[50]|5=>[49]|6=>[51]|7=>[55]|8=>[52]|9=>[57]|10=>[49]|_=>[]
def wz(k:Nat):List UInt8:=match k with|0=>[49]|1=>[49,48]|2=>[53]|3=>[49,48]|4=>[53]|5=>[50]|6=>[53]|7=>[49,48]|8=>[53]|9=>[49,48]|10=>[49]|_=>[]
def Qj{k:Nat}(a:k<=10):af PP II 86 [.int M k,.int M 10] (z 12) (.ret (.qP [.agg [.str (wy k),.str (wz k)],.int M 0]) (z 12)):=by
 match k,a with
 |0,_=>exact MC
 |1,_=>exact MD
 |2,_=>exact aa8
 |3,_=>exact aa9
 |4,_=>exact MG
 |5,_=>exact MH
 |6,_=>exact MI
 |7,_=>exact MJ
 |8,_=>exact MK
 |9,_=>exact ML
 |10,_=>exact I0
 |k+11,h=>omega
def GS:aC PP II:=aC.pure 86
 (λX args a=>match args with
  |[.int M k,.int M d]=>X.bq (decide (0<=k)&&decide (k<=10)&&decide (d=10)) (a (.qP [.agg [.str (wy k.toNat),.str (wz k.toNat)],.int M 0]))
  |_=>X.fail)
 λX sem hX args a h=>by
  split at h
  ·rename_i k d
   obtain⟨b,c⟩:=hX.bq _ _ h
   simp only[bf,bn]at b
   obtain⟨⟨e,g⟩,f⟩:=b
   have:=Qj (k:=k.toNat) O
   rw[Int.toNat_of_nonneg e]at this
   rw[f]
   exact⟨_,c,λ_=>rfl,λ_=>rfl,this⟩
  ·exact zR
end
end Go.Sx
