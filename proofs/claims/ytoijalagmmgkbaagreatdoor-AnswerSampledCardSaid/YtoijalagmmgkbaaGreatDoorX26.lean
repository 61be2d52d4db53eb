/- Lemmas, part 26. -/
import Derived.Test.YtoijalagmmgkbaaGreatDoorX25
set_option linter.all false
set_option linter.defProp false
set_option maxRecDepth 1000000
namespace Go.Sx
open Go
open Nat renaming blt->M
open List renaming take->z,drop->a_
noncomputable section
def aj(q:Query)(x:ay)(j:Nat):Int:=gJ x (q.G j) 0
def bL(n)(W):an n (ae W) (ae W):=Zj λ_ _=>zM _ _ _
def eV{a b}(h:a<b):M a b=true:=ZD
def js{a b}(h :¬ a<b):M a b=false:=by rw[Bool.eq_false_iff];simp_all
def ey(W)(j)(v)(a:v=W j):an (j+1) (λi=>bif M i j then ae W i else z 1 (a_ (0+(i-j)*1) [.int .i64 v])) (ae W):=λk b σ=>by
 show bt.le σ (bif M k j then ae W k else z 1 (a_ (0+(k-j)*1) [.int .i64 v])) (ae W k)
 by_cases h:k<j
 ·rw[eV h];exact zM _ _ _
 ·have:k=j:=by omega
  subst this
  rw[js h,show 0+(k-k)*1=0 by omega,a]
  exact⟨⟨rfl,rfl⟩,trivial⟩
def Jl(q)(x)(i)(j:Nat)(a:i=(j:Int))(hn:q.ng<=4)(c:j<q.ng)(Q)(hQ:Q):kr [jr] [] 30 5001 14 (CI q x (aj q x)) (λ_=>xV q.ng (aj q x)) (λi=>i+1) Q i:=by
 rw[CJ]
 have e1:Int.toNat i=j:=O
 have b:Int.toNat (i+1)=j+1:=O
 have d:Int.ofNat q.ng=(q.ng:Int):=rfl
 rw[e1,b]
 refine Zg (λ_=>?_) O
 refine cC _ _ Y (cC _ _ Y (cC _ _ (aq O O) ?_))
 have rows:=ey (aj q x) j (gJ x (q.G j) 0) A
 repeat' (first|exact hQ|exact rows|exact aZ|exact bO _ _|refine Zf A ?_|refine YG A ?_|refine And.intro ?_ ?_)
def Nu(q)(x)(hn:q.ng<=4):eu PP II false (aD II 30 5001) 14 (CI q x (aj q x) 0) (xV q.ng (aj q x)):=by
 have key:=eu.of (ι:=Nat) Hs [jr] (bm PP II []) 1000 (c:=aD II 30 5001) (ir:=false) 14 (λj=>j<=q.ng) (λj=>CI q x (aj q x) (j:Int)) (λ_=>xV q.ng (aj q x)) (λj=>q.ng-j) (λj=>j+1) 0 A (Nat.zero_le _) λj b=>?_
 ·exact key
 by_cases a:j<q.ng
 ·exact Jl q x (j:Int) j A hn a (j+1<=q.ng/\q.ng-(j+1)<q.ng-j/\(xV q.ng (aj q x)).pick=(xV q.ng (aj q x)).pick) Y
 ·have b:j=q.ng:=by have:j<=q.ng:=b;omega
  have done:∀(i:Int)(Q:Prop),i=(q.ng:Int)->kr [jr] [] 30 5001 14 (CI q x (aj q x)) (λ_=>xV q.ng (aj q x)) (λi=>i+1) Q i:=λi Q d=>by
   rw[CJ]
   have e:Int.ofNat q.ng=(q.ng:Int):=rfl
   have e1:i.toNat=q.ng:=O
   refine Zg O λ_=>?_
   rw[e1]
   exact YG A ⟨bL _ _,aZ,YG A trivial⟩
  exact done (j:Int) _ O
def Un{q}(h:Hl q=true):q.ng<=4:=by
 unfold Hl at h
 grind
def Uo{q x}(a:aI 3 q.nw (au q.C)=true)(b:aI 1 q.ng (aR q.G)=true)(hq:Hl q=true)(hx:bB x=true):
  af PP II 30 [.agg (aY q),.agg (eD x)] HO (.ret (.qP [.ab q.ng 1 (ae (aj q x)),.int .i64 0]) HO):=by
 refine CB (ks:=[lQ,nL]) (T:=[(5001,14,CI q x (aj q x) 0,xV q.ng (aj q x))]) (λσ=>⟨⟨rfl,rfl,λ_ _=>zM _ _ _⟩,⟨rfl,rfl⟩,trivial⟩) ?_
 rw[Um,a,b,show Hl _=true from(oH q).trans hq,hx]
 refine cC _ _ A (cC _ _ A ⟨Nu q x (Un hq),?_⟩)
 repeat' (first|exact aZ|exact bO _ _|refine Zf A ?_|refine YG A ?_|refine And.intro ?_ ?_|exact cC _ _ zA ⟨rfl,rfl⟩)
def Bh:ao [48]=0:=by rw[<-ly];exact cq 0
def tn(σ:Nat->Nat)(S:Nat->List UInt8)(j:Nat):bt.le σ (lh S j) (lh S j):=⟨rfl,rfl,trivial⟩
def pn{e:Nat}(R:Nat->List AV)(k:Nat)(a:∀j σ,bt.le σ (R j) (R j))(b:(R k).length=e):an (k+1) (λi=>bif M i k then R i else z e (a_ (0+(i-k)*e) (R k))) R:=λj c σ=>by
 show bt.le σ (bif M j k then R j else z e (a_ (0+(j-k)*e) (R k))) (R j)
 by_cases h:j<k
 ·rw[eV h];exact a j σ
 ·have:j=k:=by omega
  subst this
  rw[js h,cond_false,Nat.sub_self,Nat.zero_mul,List.drop_zero,<-b,List.take_length]
  exact a j σ
def pS(f:Nat->List AV)(j:Nat):List UInt8:=match f j with
 | .str s::_=>s
 |_=>[]
end
end Go.Sx
