/- The proof of a statement of the seat, part 30. -/
import Derived.Test.YtleifmkjbmhlpaaGreatDoorX29
import Derived.Test.YtleifmkjbmhlpaaGreatDoorX14
import Derived.Test.YtleifmkjbmhlpaaGreatDoorX28
set_option linter.all false
set_option linter.defProp false
set_option maxRecDepth 1000000
namespace Go.Sx
open Go
open Decidable renaming decide->M
open AV renaming bool->z,int->b_
open Go.IntKind renaming i64->a_
open AH renaming blank->c_
noncomputable section
def YL(f o N a b)(Q):(kb [] [] 36 [.agg [.int a_ f,.int a_ o,.int a_ N],.int a_ a,.int a_ b] Q)=(ak (M (o=1)) (ak (M (N<a)) (Q (z true)) (Q (z (M (N>b))))) (ak (M (o=2)) (ak (M (a>b)) (Q (z true)) (ak (M (a=N)) (Q (z (M (b=N)))) (Q (z false)))) (ak (M (o=3)) (ak (M (a>b)) (Q (z true)) (Q (z (M (a>=N))))) (ak (M (a>b)) (Q (z true)) (Q (z (M (b<N)))))))):=U
def YM(x)(f d)(Q):(kb [] [] 39 [.agg (aB x),.int a_ f,.int a_ d] Q)=(ak (M (f=1)) (Q (b_ a_ x.t)) (ak (M (f=2)) (Q (b_ a_ x.v)) (ak (M (f=3)) (Q (b_ a_ x.w)) (ak (M (f=4)) (Q (b_ a_ x.o)) (ak (M (f=5)) (Q (b_ a_ x.p)) (ak (M (f=6)) (Q (b_ a_ x.d)) (ak (M (f=7)) (Q (b_ a_ x.b)) (ak (M (f=8)) (Q (b_ a_ d)) (Q (b_ a_ 0)))))))))):=U
def YN{f o N a b}(d:1<=o)(e:o<=4):af PP II 36 [.agg [.int a_ f,.int a_ o,.int a_ N],.int a_ a,.int a_ b] (c_ 12) (.ret (.bool (!zn a b o N)) (c_ 12)):=by
 refine bQ (ks:=[]) (T:=[]) (λσ=>rfl) ?_;rw[YL];have c:zn a b o N=true->(z false=z (!zn a b o N)):=zA;have no:zn a b o N=false->(z true=z (!zn a b o N)):=zA;unfold zn at*;have both:∀(p:Prop) [Decidable p],(p↔ ¬ ((o=1/\a<=N/\N<=b)∨(o=2/\a<=b/\(a≠N∨b≠N))∨(o=3/\a<=b/\a<N)∨(o=4/\a<=b/\N<=b)))->(z (decide p)=z (!decide ((o=1/\a<=N/\N<=b)∨(o=2/\a<=b/\(a≠N∨b≠N))∨(o=3/\a<=b/\a<N)∨(o=4/\a<=b/\N<=b)))):=Y
 repeat' (first
  |with_reducible refine aaA (λ_=>?_) λ_=>?_
  |grind
  |grind
  |grind)
def abS:ax PP II:=ax.pure 36
 (λX args d=>match args with
  |[.agg [.int a_ _,.int a_ o,.int a_ N],.int a_ a,.int a_ b]=>X.ag (M (1<=o)&&M (o<=4)) (d (.bool (!zn a b o N)))
  |_=>X.fail)
 λX sem hX args d h=>by
  split at h
  ·obtain⟨c,e⟩:=hX.ag _ _ h;simp only[ba,bl]at c;exact⟨_,e,λ_=>rfl,λ_=>rfl,YN c.1 c.2⟩
  ·exact zR
def lF(x:ao)(f d:Int):Int:=if f=1 then x.t else if f=2 then x.v else if f=3 then x.w else if f=4 then x.o else if f=5 then x.p else if f=6 then x.d else if f=7 then x.b else if f=8 then d else 0
def YO(x)(f d):af PP II 39 [.agg (aB x),.int a_ f,.int a_ d] (c_ 12) (.ret (.int a_ (lF x f d)) (c_ 12)):=by
 refine bQ (ks:=[]) (T:=[]) (λσ=>⟨rfl,rfl⟩) ?_;rw[YM];unfold lF;refine aaA (by simp_all) λa=>?_
 rw[if_neg a];refine aaA (by simp_all) λa=>?_
 rw[if_neg a];refine aaA (by simp_all) λa=>?_
 rw[if_neg a];refine aaA (by simp_all) λa=>?_
 rw[if_neg a];refine aaA (by simp_all) λa=>?_
 rw[if_neg a];refine aaA (by simp_all) λa=>?_
 rw[if_neg a];refine aaA (by simp_all) λa=>?_
 rw[if_neg a];refine aaA (by simp_all) λa=>?_
 rw[if_neg a]
def kx:ax PP II:=ax.pure 39
 (λX args a=>match args with
  |[.agg cs,.int a_ f,.int a_ d]=>match jJ cs with
   |some x=>a (.int a_ (lF x f d))
   |none=>X.fail
  |_=>X.fail)
 λX sem hX args a h=>by
  split at h
  ·rename_i cs f d;split at h
   ·rename_i x hx;have e:=gI hx;subst e;exact⟨_,h,λ_=>rfl,λ_=>rfl,YO x f d⟩
   ·exact zR
  ·exact zR
def s13(q:Query)(lo hi:Nat->Int)(i:Int):St:={t:=Tr.ofList [(2,.ptr 12 0 0 0),(3,.ptr 13 0 0 0),(5,.int a_ i)],nt:=35,H:={n:=14,t:=Tr.ofList [(12,.cells (aZ q) (.ty 34)),(13,.cells (cD lo hi) (.ty 46))]},df:=[]}
def I2(b:Bool):GE:=.cond b (.one (.r {t:=Tr.ofList [(4,.bool true)],nt:=35,H:=c_ 14,df:=[]})) (.one (.x 0 {t:=.e,nt:=35,H:=c_ 14,df:=[]}))
end
end Go.Sx
