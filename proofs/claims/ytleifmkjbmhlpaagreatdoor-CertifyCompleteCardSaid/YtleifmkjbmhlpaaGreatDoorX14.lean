/- The proof of a statement of the seat, part 14. -/
import Derived.Test.YtleifmkjbmhlpaaGreatDoorX13
set_option linter.all false
set_option linter.defProp false
set_option maxRecDepth 1000000
namespace Go.Sx
open Go
open Decidable renaming decide->M
open AV renaming int->z,str->i_,ae->k_,ptr->o_,aD->q_,own->u_,bW->x_,le->A_
open Int renaming ofNat->a_,toNat->c_,tdiv->d_
open Go.IntKind renaming i64->b_
open Option renaming none->e_,some->f_
open Nat renaming blt->g_,ble->h_,pow_le_pow_right->s_,below->y_,log2->z_
open List renaming drop->j_,length_cons->l_,take->m_,length->n_,getD_eq_getElem?_getD->p_,length_append->t_,all->w_
noncomputable section
def lO(n:Int):Bool:=M (-4611686018427387903<=n)&&M (n<=4611686018427387903)
def rZ:∀l,(aA l).length<=10*l.length
 |[]=>by simp[aA]
 |a::l=>by have:=rZ l;have h:=ue a;simp only[aA,List.flatMap_cons,t_,l_]at*;omega
def pW(x:ao):Bool:=lO x.t&&lO x.s&&lO x.v&&lO x.w&&lO x.o&&lO x.p&&lO x.d&&lO x.l&&lO x.h&&lO x.b
def uk(x:ao):List Int:=[x.t,x.s,x.v,x.w,x.o,x.p,x.d,x.l,x.h,x.b]
def loI(x:ao)(j:Nat):Int:=match j with|0=>x.t|1=>x.v|2=>x.w|3=>x.o|4=>x.p|5=>x.d|6=>x.b|7=>x.l|_=>0
def hiI(x:ao)(j:Nat):Int:=match j with|0=>x.t|1=>x.v|2=>x.w|3=>x.o|4=>x.p|5=>x.d|6=>x.b|7=>x.h|_=>0
def aO(x:ao):Node:=⟨loI x,hiI x,A4 (aA (uk x)),[]⟩
def vA(σ)(x):bj.le σ (di x) (di x):=
 ⟨⟨rfl,rfl⟩,⟨rfl,rfl⟩,⟨rfl,rfl⟩,⟨rfl,rfl⟩,⟨rfl,rfl⟩,⟨rfl,rfl⟩,⟨rfl,rfl⟩,⟨rfl,rfl⟩,⟨rfl,rfl⟩,⟨rfl,rfl⟩,⟨rfl,rfl⟩,⟨rfl,rfl⟩,⟨rfl,rfl⟩,⟨rfl,rfl⟩,⟨rfl,rfl⟩,⟨rfl,rfl⟩,rfl,rfl,trivial⟩
def U4{x}(h:pW x=true):af PP II 72 [.agg (aB x)] HB (.ret (.agg (di (aO x))) HB):=by
 refine yR (ks:=[yB,Ij]) (T:=[]) (λσ=>vA σ _) ?_;rw[U3 x];have hl:=rZ (uk x);simp only[pW,lO,ba,bl]at h;refine ZF ?_ (ZF ?_ (ZF ?_ (ZF ?_ ?_)))
 grind
 simp
 ·have e:(uk x).length=10:=rfl;exact il (by show(aA (uk x)).length<=_;omega)
 simp
 ·rfl
def cQ(x:Node):Bool:=lO (x.lo 0)&&lO (x.lo 1)&&lO (x.lo 2)&&lO (x.lo 3)&&lO (x.lo 4)&&lO (x.lo 5)&&lO (x.lo 6)&&lO (x.lo 7)&&lO (x.hi 0)&&lO (x.hi 1)&&lO (x.hi 2)&&lO (x.hi 3)&&lO (x.hi 4)&&lO (x.hi 5)&&lO (x.hi 6)&&lO (x.hi 7)&&h_ x.l.length 1000&&h_ x.r.length 1000
def qR(x:Node)(j:Nat):List UInt8:=aA [x.lo j,x.hi j]
def U5(x:Node)(p:UInt8):List UInt8:=dD (dD (dD (dD (dD (dD (dD (dD (dD [] [p]) (qR x 0)) (qR x 1)) (qR x 2)) (qR x 3)) (qR x 4)) (qR x 5)) (qR x 6)) (qR x 7)
def mW(x:Node):List UInt8:=A4 (dD (dD (U5 x (bif List.beq x.r []then 5 else 6)) x.l) x.r)
def qS{a b}(ha:lO a=true)(c:lO b=true):(M (-4611686018427387903<=a)&&M (a<=4611686018427387903)&&(M (-4611686018427387903<=b)&&M (b<=4611686018427387903)&&true)&&true&&true)=true:=by
 unfold lO at ha c;rw[ha,c];rfl
def qT{n m k}(a:n=m)(b:n<=1000)(h3:k<=20):(M (n<=m)&&true&&true&&M ((n+k)*1<=140737488355328)&&(M (n=m)&&true))=true:=by
 grind
def aaf(n:Nat):(M (n=n)&&true)=true:=zA
def Yo{n m}(a:n=m)(b:0<n)(h3:n<=1000):(M (c_ (a_ n)=m)&&true&&true&&M (0<a_ n)&&M (a_ n<=9223372036854775807)&&true)=true:=by
 grind
def iK(x:Node)(j):(aA [x.lo j,x.hi j]).length<=20:=rZ _
def Ej(a b):(dD a b).length=a.length+b.length:=t_
def Fb{x}(h:cQ x=true):af PP II 42 [.agg (di x)] HB (.ret (.str (mW x)) HB):=by
 refine yR (ks:=[yB,Ij,bt]) (T:=[]) (λσ=>rfl) ?_;rw[QG x];simp only[cQ,ba]at h;obtain⟨⟨⟨⟨⟨⟨⟨⟨⟨⟨⟨⟨⟨⟨⟨⟨⟨a0,a1⟩,a2⟩,b⟩,a4⟩,c⟩,d⟩,e⟩,c0⟩,c1⟩,c2⟩,c3⟩,f⟩,g⟩,i⟩,j⟩,hl⟩,a⟩:=h;have hl:=fT hl;have a:=fT a;have k:=iK x 0;have l:=iK x 1;have m:=iK x 2;have n:=iK x 3;have o:=iK x 4;have p:=iK x 5;have q:=iK x 6;have r:=iK x 7;refine aaz (λh=>?_) λh=>?_
 all_goals
  refine ZF (qS a0 c0) (ZF (qT (by rfl) O k) ?_);refine ZF (qS a1 c1) (ZF (qT zO O l) ?_);refine ZF (qS a2 c2) (ZF (qT zO O m) ?_);refine ZF (qS b c3) (ZF (qT zO O n) ?_);refine ZF (qS a4 f) (ZF (qT zO O o) ?_);refine ZF (qS c g) (ZF (qT zO O p) ?_);refine ZF (qS d i) (ZF (qT zO O q) ?_);refine ZF (qS e j) (ZF (qT zO O r) ?_);refine ZF Y (ZF (aaf _) (ZF (bK A) (ZF (Yo zO O O) (ZF (bK A) (ZF (bK zK) (ZF (bK A) (ZF (bK zK) (ZF (il zK) ?_))))))));unfold mW;rw[h];rfl
def yS:ax PP II:=ax.xa 72
 (λX args a=>match args with
  |[.agg cs]=>match jJ cs with
   |some x=>X.ag (pW x) (a (.agg (di (aO x))))
   |none=>X.fail
  |_=>X.fail)
 λX sem hX args a h=>by
  split at h
  ·rename_i cs;split at h
   ·rename_i x hx;obtain⟨b,c⟩:=hX.ag _ _ h;rw[gI hx];exact⟨_,c,λ_=>rfl,λ_=>rfl,U4 b⟩
   ·exact zR
  ·exact zR
def yT:List AV->Option Node
 |[.int b_ a0,.int b_ a1,.int b_ a2,.int b_ a3,.int b_ a4,.int b_ a5,.int b_ a,.int b_ b,.int b_ c,.int b_ d,.int b_ e,.int b_ f,.int b_ g,.int b_ h,.int b_ i,.int b_ k,.str l,.str r]=>
  f_ ⟨λj=>match j with|0=>a0|1=>a1|2=>a2|3=>a3|4=>a4|5=>a5|6=>a|7=>b|_=>0,λj=>match j with|0=>c|1=>d|2=>e|3=>f|4=>g|5=>h|6=>i|7=>k|_=>0,l,r⟩
 |_=>e_
def vC{cs x}(h:yT cs=f_ x):cs=di x:=by
 unfold yT at h;split at h
 ·cases h;rfl
 ·cases h
def yU:ax PP II:=ax.xa 42
 (λX args a=>match args with
  |[.agg cs]=>match yT cs with
   |some x=>X.ag (cQ x) (a (.str (mW x)))
   |none=>X.fail
  |_=>X.fail)
 λX sem hX args a h=>by
  split at h
  ·rename_i cs;split at h
   ·rename_i x hx;obtain⟨b,c⟩:=hX.ag _ _ h;rw[vC hx];exact⟨_,c,λ_=>rfl,λ_=>rfl,Fb b⟩
   ·exact zR
  ·exact zR
def U6(x y)(Q):(kh [yU] [] 74 [.agg (di x),.agg (di y)] Q)=(let a:=(Q (AV.agg [z b_ (if y.lo 0<x.lo 0 then y.lo 0 else x.lo 0),z b_ (if y.lo 1<x.lo 1 then y.lo 1 else x.lo 1),z b_ (if y.lo 2<x.lo 2 then y.lo 2 else x.lo 2),z b_ (if y.lo 3<x.lo 3 then y.lo 3 else x.lo 3),z b_ (if y.lo 4<x.lo 4 then y.lo 4 else x.lo 4),z b_ (if y.lo 5<x.lo 5 then y.lo 5 else x.lo 5),z b_ (if y.lo 6<x.lo 6 then y.lo 6 else x.lo 6),z b_ (if y.lo 7<x.lo 7 then y.lo 7 else x.lo 7),z b_ (if y.hi 0>x.hi 0 then y.hi 0 else x.hi 0),z b_ (if y.hi 1>x.hi 1 then y.hi 1 else x.hi 1),z b_ (if y.hi 2>x.hi 2 then y.hi 2 else x.hi 2),z b_ (if y.hi 3>x.hi 3 then y.hi 3 else x.hi 3),z b_ (if y.hi 4>x.hi 4 then y.hi 4 else x.hi 4),z b_ (if y.hi 5>x.hi 5 then y.hi 5 else x.hi 5),z b_ (if y.hi 6>x.hi 6 then y.hi 6 else x.hi 6),z b_ (if y.hi 7>x.hi 7 then y.hi 7 else x.hi 7),i_ (mW {lo:=λj=>if h:j=0 then x.lo 0 else if h:j=1 then x.lo 1 else if h:j=2 then x.lo 2 else if h:j=3 then x.lo 3 else if h:j=4 then x.lo 4 else if h:j=5 then x.lo 5 else if h:j=6 then x.lo 6 else if h:j=7 then x.lo 7 else 0,hi:=λj=>if h:j=0 then x.hi 0 else if h:j=1 then x.hi 1 else if h:j=2 then x.hi 2 else if h:j=3 then x.hi 3 else if h:j=4 then x.hi 4 else if h:j=5 then x.hi 5 else if h:j=6 then x.hi 6 else if h:j=7 then x.hi 7 else 0,l:=x.l,r:=x.r}),i_ (mW {lo:=λj=>if h:j=0 then y.lo 0 else if h:j=1 then y.lo 1 else if h:j=2 then y.lo 2 else if h:j=3 then y.lo 3 else if h:j=4 then y.lo 4 else if h:j=5 then y.lo 5 else if h:j=6 then y.lo 6 else if h:j=7 then y.lo 7 else 0,hi:=λj=>if h:j=0 then y.hi 0 else if h:j=1 then y.hi 1 else if h:j=2 then y.hi 2 else if h:j=3 then y.hi 3 else if h:j=4 then y.hi 4 else if h:j=5 then y.hi 5 else if h:j=6 then y.hi 6 else if h:j=7 then y.hi 7 else 0,l:=y.l,r:=y.r})]));let b:=(M (x.lo 0=x.lo 0)&&(M (x.lo 1=x.lo 1)&&(M (x.lo 2=x.lo 2)&&(M (x.lo 3=x.lo 3)&&(M (x.lo 4=x.lo 4)&&(M (x.lo 5=x.lo 5)&&(M (x.lo 6=x.lo 6)&&(M (x.lo 7=x.lo 7)&&(M (x.hi 0=x.hi 0)&&(M (x.hi 1=x.hi 1)&&(M (x.hi 2=x.hi 2)&&(M (x.hi 3=x.hi 3)&&(M (x.hi 4=x.hi 4)&&(M (x.hi 5=x.hi 5)&&(M (x.hi 6=x.hi 6)&&(M (x.hi 7=x.hi 7)&&true))))))))))))))));(B (cQ {lo:=λj=>if h:j=0 then x.lo 0 else if h:j=1 then x.lo 1 else if h:j=2 then x.lo 2 else if h:j=3 then x.lo 3 else if h:j=4 then x.lo 4 else if h:j=5 then x.lo 5 else if h:j=6 then x.lo 6 else if h:j=7 then x.lo 7 else 0,hi:=λj=>if h:j=0 then x.hi 0 else if h:j=1 then x.hi 1 else if h:j=2 then x.hi 2 else if h:j=3 then x.hi 3 else if h:j=4 then x.hi 4 else if h:j=5 then x.hi 5 else if h:j=6 then x.hi 6 else if h:j=7 then x.hi 7 else 0,l:=x.l,r:=x.r}) (B b (B (M (y.lo 0=y.lo 0)&&(M (y.lo 1=y.lo 1)&&(M (y.lo 2=y.lo 2)&&(M (y.lo 3=y.lo 3)&&(M (y.lo 4=y.lo 4)&&(M (y.lo 5=y.lo 5)&&(M (y.lo 6=y.lo 6)&&(M (y.lo 7=y.lo 7)&&(M (y.hi 0=y.hi 0)&&(M (y.hi 1=y.hi 1)&&(M (y.hi 2=y.hi 2)&&(M (y.hi 3=y.hi 3)&&(M (y.hi 4=y.hi 4)&&(M (y.hi 5=y.hi 5)&&(M (y.hi 6=y.hi 6)&&(M (y.hi 7=y.hi 7)&&(M (y.l=y.l)&&(M (y.r=y.r)&&true)))))))))))))))))) (B (cQ {lo:=λj=>if h:j=0 then y.lo 0 else if h:j=1 then y.lo 1 else if h:j=2 then y.lo 2 else if h:j=3 then y.lo 3 else if h:j=4 then y.lo 4 else if h:j=5 then y.lo 5 else if h:j=6 then y.lo 6 else if h:j=7 then y.lo 7 else 0,hi:=λj=>if h:j=0 then y.hi 0 else if h:j=1 then y.hi 1 else if h:j=2 then y.hi 2 else if h:j=3 then y.hi 3 else if h:j=4 then y.hi 4 else if h:j=5 then y.hi 5 else if h:j=6 then y.hi 6 else if h:j=7 then y.hi 7 else 0,l:=y.l,r:=y.r}) (B b (ak (M (y.lo 0=x.lo 0)&&(M (y.lo 1=x.lo 1)&&(M (y.lo 2=x.lo 2)&&(M (y.lo 3=x.lo 3)&&(M (y.lo 4=x.lo 4)&&(M (y.lo 5=x.lo 5)&&(M (y.lo 6=x.lo 6)&&(M (y.lo 7=x.lo 7)&&true)))))))) (ak (M (y.hi 0=x.hi 0)&&(M (y.hi 1=x.hi 1)&&(M (y.hi 2=x.hi 2)&&(M (y.hi 3=x.hi 3)&&(M (y.hi 4=x.hi 4)&&(M (y.hi 5=x.hi 5)&&(M (y.hi 6=x.hi 6)&&(M (y.hi 7=x.hi 7)&&true)))))))) (Q (AV.agg [z b_ (x.lo 0),z b_ (x.lo 1),z b_ (x.lo 2),z b_ (x.lo 3),z b_ (x.lo 4),z b_ (x.lo 5),z b_ (x.lo 6),z b_ (x.lo 7),z b_ (x.hi 0),z b_ (x.hi 1),z b_ (x.hi 2),z b_ (x.hi 3),z b_ (x.hi 4),z b_ (x.hi 5),z b_ (x.hi 6),z b_ (x.hi 7),i_ (mW {lo:=λj=>if h:j=0 then x.lo 0 else if h:j=1 then x.lo 1 else if h:j=2 then x.lo 2 else if h:j=3 then x.lo 3 else if h:j=4 then x.lo 4 else if h:j=5 then x.lo 5 else if h:j=6 then x.lo 6 else if h:j=7 then x.lo 7 else 0,hi:=λj=>if h:j=0 then x.hi 0 else if h:j=1 then x.hi 1 else if h:j=2 then x.hi 2 else if h:j=3 then x.hi 3 else if h:j=4 then x.hi 4 else if h:j=5 then x.hi 5 else if h:j=6 then x.hi 6 else if h:j=7 then x.hi 7 else 0,l:=x.l,r:=x.r}),i_ (mW {lo:=λj=>if h:j=0 then y.lo 0 else if h:j=1 then y.lo 1 else if h:j=2 then y.lo 2 else if h:j=3 then y.lo 3 else if h:j=4 then y.lo 4 else if h:j=5 then y.lo 5 else if h:j=6 then y.lo 6 else if h:j=7 then y.lo 7 else 0,hi:=λj=>if h:j=0 then y.hi 0 else if h:j=1 then y.hi 1 else if h:j=2 then y.hi 2 else if h:j=3 then y.hi 3 else if h:j=4 then y.hi 4 else if h:j=5 then y.hi 5 else if h:j=6 then y.hi 6 else if h:j=7 then y.hi 7 else 0,l:=y.l,r:=y.r})])) a) a))))))):=U
def MJ(n)(s)(Q):(kh [yB,Ij] [] 41 [.int b_ n,.str s] Q)=(B (M ((-4611686018427387903:Int)<=n)&&M (n<=4611686018427387903)&&true&&true&&true) (B (M (1+n_ (aA [n])<=9223372036854775807)) (B (M (n_ (dD [7] (aA [n]))+n_ s<=9223372036854775807)) (B (h_ (n_ (dD (dD [7] (aA [n])) s)) 900000) (Q (i_ (A4 (dD (dD [7] (aA [n])) s)))))))):=U
def qU(a b:Int):Int:=if b<a then b else a
def qV(a b:Int):Int:=if b>a then b else a
def bc(x y:Node):Node:=⟨λj=>qU (x.lo j) (y.lo j),λj=>qV (x.hi j) (y.hi j),mW x,mW y⟩
def wz{a b}(ha:lO a=true)(c:lO b=true):lO (qU a b)=true:=by
 unfold qU;split<;>assumption
def wA{a b}(ha:lO a=true)(c:lO b=true):lO (qV a b)=true:=by
 unfold qV;split<;>assumption
def yV(x):(mW x).length=32:=rfl
def QH{x y}(hx:cQ x=true)(a:cQ y=true):cQ (bc x y)=true:=by
 simp only[cQ,ba]at hx a⊢;obtain⟨⟨⟨⟨⟨⟨⟨⟨⟨⟨⟨⟨⟨⟨⟨⟨⟨a0,a1⟩,a2⟩,b⟩,a4⟩,c⟩,d⟩,e⟩,c0⟩,c1⟩,c2⟩,c3⟩,f⟩,g⟩,h⟩,i⟩,_⟩,_⟩:=hx;obtain⟨⟨⟨⟨⟨⟨⟨⟨⟨⟨⟨⟨⟨⟨⟨⟨⟨j,k⟩,l⟩,m⟩,n⟩,o⟩,p⟩,q⟩,r⟩,d1⟩,s⟩,t⟩,u⟩,v⟩,w⟩,C⟩,_⟩,_⟩:=a;exact⟨⟨⟨⟨⟨⟨⟨⟨⟨⟨⟨⟨⟨⟨⟨⟨⟨wz a0 j,wz a1 k⟩,wz a2 l⟩,wz b m⟩,wz a4 n⟩,wz c o⟩,wz d p⟩,wz e q⟩,wA c0 r⟩,wA c1 d1⟩,wA c2 s⟩,wA c3 t⟩,wA f u⟩,wA g v⟩,wA h w⟩,wA i C⟩,rfl⟩,rfl⟩
def QI{x}(h:pW x=true):cQ (aO x)=true:=by
 simp only[pW,ba]at h;obtain⟨⟨⟨⟨⟨⟨⟨⟨⟨a,i⟩,b⟩,h3⟩,h4⟩,c⟩,d⟩,f⟩,g⟩,e⟩:=h;simp only[cQ,ba];exact⟨⟨⟨⟨⟨⟨⟨⟨⟨⟨⟨⟨⟨⟨⟨⟨⟨a,b⟩,h3⟩,h4⟩,c⟩,d⟩,e⟩,f⟩,a⟩,b⟩,h3⟩,h4⟩,c⟩,d⟩,e⟩,g⟩,rfl⟩,rfl⟩
def jR{a b}(h:b=a):qU a b=a:=by rw[h];unfold qU;exact ite_self _
def jS{a b}(h:b=a):qV a b=a:=by rw[h];unfold qV;exact ite_self _
def Ik{x y}(h:y.lo 0=x.lo 0/\y.lo 1=x.lo 1/\y.lo 2=x.lo 2/\y.lo 3=x.lo 3/\y.lo 4=x.lo 4/\y.lo 5=x.lo 5/\y.lo 6=x.lo 6/\y.lo 7=x.lo 7/\True)
  (a:y.hi 0=x.hi 0/\y.hi 1=x.hi 1/\y.hi 2=x.hi 2/\y.hi 3=x.hi 3/\y.hi 4=x.hi 4/\y.hi 5=x.hi 5/\y.hi 6=x.hi 6/\y.hi 7=x.hi 7/\True):di (bc x y)=di ⟨x.lo,x.hi,mW x,mW y⟩:=by
 obtain⟨a0,a1,a2,b,a4,c,d,e,_⟩:=h;obtain⟨c0,c1,c2,c3,f,g,i,j,_⟩:=a;unfold di bc;dsimp only;rw[jR a0,jR a1,jR a2,jR b,jR a4,jR c,jR d,jR e,jS c0,jS c1,jS c2,jS c3,jS f,jS g,jS i,jS j]
def Kx{x y}(hx:cQ x=true)(b:cQ y=true):af PP II 74 [.agg (di x),.agg (di y)] HB (.ret (.agg (di (bc x y))) HB):=by
 refine yR (ks:=[yU]) (T:=[]) (λσ=>vA σ _) ?_;rw[U6 x y];refine ZF ((rfl:_=cQ x).trans hx) (ZF ?_ (ZF ?_ (ZF ((rfl:_=cQ y).trans b) (ZF ?_ (aaz (λh=>aaz (λa=>?_) λ_=>rfl) λ_=>rfl)))));simp;simp;simp
 ·simp only[ba,bl]at h a;have key:=Ik (x:=x) (y:=y) h a;rw[key];rfl
def QJ:ax PP II:=ax.xa 74
 (λX args b=>match args with
  |[.agg cs,.agg ds]=>match yT cs,yT ds with
   |some x,f_ y=>X.ag (cQ x&&cQ y) (b (.agg (di (bc x y))))
   |_,_=>X.fail
  |_=>X.fail)
 λX sem hX args b h=>by
  split at h
  ·rename_i cs ds;split at h
   ·rename_i x y hx c;obtain⟨a,d⟩:=hX.ag _ _ h;simp only[ba]at a;rw[vC hx,vC c];exact⟨_,d,λ_=>rfl,λ_=>rfl,Kx a.1 a.2⟩
   ·exact zR
  ·exact zR
def oO(n:Int)(s:List UInt8):List UInt8:=A4 (dD (dD [7] (aA [n])) s)
inductive Tree where
 |leaf (x:ao)
 |node (l r:Tree)
def aq:Tree->Node
 | .leaf x=>aO x
 | .node l r=>bc (aq l) (aq r)
def dp:ao:=⟨0,0,0,0,0,0,0,0,0,0⟩
def bJ:Tree->ao
 | .leaf x=>x
 | .node _ _=>dp
def cellsOf(n:Node)(x:ao)(k:AV):List AV:=[.int b_ (n.lo 0),.int b_ (n.lo 1),.int b_ (n.lo 2),.int b_ (n.lo 3),.int b_ (n.lo 4),.int b_ (n.lo 5),.int b_ (n.lo 6),.int b_ (n.lo 7),.int b_ (n.hi 0),.int b_ (n.hi 1),.int b_ (n.hi 2),.int b_ (n.hi 3),.int b_ (n.hi 4),.int b_ (n.hi 5),.int b_ (n.hi 6),.int b_ (n.hi 7),.str n.l,.str n.r,
 .int b_ x.t,.int b_ x.s,.int b_ x.v,.int b_ x.w,.int b_ x.o,.int b_ x.p,.int b_ x.d,.int b_ x.l,.int b_ x.h,.int b_ x.b,k]
def r6(p q:AV)(i:Nat):List AV:=m_ 1 (j_ (0+i*1) [p,q])
def cy:Tree->AV
 | .leaf _=> .aD
 | .node l r=> .ae 2 1 (r6 (.bW (cellsOf (aq l) (bJ l) (cy l)) 0) (.bW (cellsOf (aq r) (bJ r) (cy r)) 0))
def dz(t:Tree):AV:=.bW (cellsOf (aq t) (bJ t) (cy t)) 0
def bp:Nat->Nat->(Nat->ao)->Tree
 |0,_,F=> .leaf (F 0)
 |d+1,n,F=>match h_ n 1 with
  |true=> .leaf (F 0)
  |false=> .node (bp d (bP n) F) (bp d (n-bP n) λi=>F (bP n+i))
def gx(n:Nat)(F:Nat->ao):Bool:=(List.range n).all λi=>pW (F i)
def cq(d n:Nat):Bool:=h_ 1 n&&h_ (2*n) (2^d)
def BK(d:Nat):Prop := ∀n F,cq d n=true->gx n F=true->af PP II 35 [cZ n F] HB (.ret (dz (bp d n F)) HB)
def Il(d:Nat)(b:BK d):ax PP II:=ax.xa 35
 (λX args a=>match args with
  |[.ae n 10 f]=>X.ag (du n f) (X.ag (cq d n) (X.ag (gx n (bS f)) (a (dz (bp d n (bS f))))))
  |_=>X.fail)
 λX sem hX args a h=>by
  split at h
  ·rename_i n f;obtain⟨c,k1⟩:=hX.ag _ _ h;obtain⟨e,k2⟩:=hX.ag _ _ k1;obtain⟨g,i⟩:=hX.ag _ _ k2;exact⟨_,i,λ_=>rfl,λ_=>rfl,(b n (bS f) e g).cS ⟨jK c,trivial⟩⟩
  ·exact zR
def U7(d n)(F)(u)(Q):(kh [yS,EK,Il d u,QJ] [] 35 [cZ n F] Q)=(let e:=(bP (c_ (a_ n)));let f:=(c_ (a_ n-a_ e));let a:=(bp d f (bS λi=>aB (F (c_ (a_ e)+i))));let g:=(c_ (a_ e-0));let c:=(bp d g (bS λi=>aB (F (0+i))));let k:=(M (0<=a_ e)&&M (a_ e<=a_ n)&&M (a_ n<=a_ n));(ak (M (a_ n=1)) (B (M (0<a_ n)) (B (pW (F 0)) (B (M (0<a_ n)) (B (M ((F 0).t=(F 0).t)&&(M ((F 0).s=(F 0).s)&&(M ((F 0).v=(F 0).v)&&(M ((F 0).w=(F 0).w)&&(M ((F 0).o=(F 0).o)&&(M ((F 0).p=(F 0).p)&&(M ((F 0).d=(F 0).d)&&(M ((F 0).l=(F 0).l)&&(M ((F 0).h=(F 0).h)&&(M ((F 0).b=(F 0).b)&&true)))))))))) (Q (x_ [z b_ (Node.lo (aO (F 0)) 0),z b_ (Node.lo (aO (F 0)) 1),z b_ (Node.lo (aO (F 0)) 2),z b_ (Node.lo (aO (F 0)) 3),z b_ (Node.lo (aO (F 0)) 4),z b_ (Node.lo (aO (F 0)) 5),z b_ (Node.lo (aO (F 0)) 6),z b_ (Node.lo (aO (F 0)) 7),z b_ (Node.hi (aO (F 0)) 0),z b_ (Node.hi (aO (F 0)) 1),z b_ (Node.hi (aO (F 0)) 2),z b_ (Node.hi (aO (F 0)) 3),z b_ (Node.hi (aO (F 0)) 4),z b_ (Node.hi (aO (F 0)) 5),z b_ (Node.hi (aO (F 0)) 6),z b_ (Node.hi (aO (F 0)) 7),i_ (Node.l (aO (F 0))),i_ (Node.r (aO (F 0))),z b_ (F 0).t,z b_ (F 0).s,z b_ (F 0).v,z b_ (F 0).w,z b_ (F 0).o,z b_ (F 0).p,z b_ (F 0).d,z b_ (F 0).l,z b_ (F 0).h,z b_ (F 0).b,q_] 0)))))) (B (M (0<=a_ n)&&M (a_ n<=1000000)) (B (M (0<=a_ e)&&M (a_ e<=a_ n)) (B (du g λi=>aB (F (0+i))) (B (cq d g) (B (gx g (bS λi=>aB (F (0+i)))) (B k (B k (B (M (c_ (a_ n-a_ e)=c_ (a_ n-a_ e))&&true&&w_ (List.range.loop f []) λi=>M (ao.t (F (c_ (a_ e)+i))=ao.t (F (c_ (a_ e)+i)))&&(M (ao.s (F (c_ (a_ e)+i))=ao.s (F (c_ (a_ e)+i)))&&(M (ao.v (F (c_ (a_ e)+i))=ao.v (F (c_ (a_ e)+i)))&&(M (ao.w (F (c_ (a_ e)+i))=ao.w (F (c_ (a_ e)+i)))&&(M (ao.o (F (c_ (a_ e)+i))=ao.o (F (c_ (a_ e)+i)))&&(M (ao.p (F (c_ (a_ e)+i))=ao.p (F (c_ (a_ e)+i)))&&(M (ao.d (F (c_ (a_ e)+i))=ao.d (F (c_ (a_ e)+i)))&&(M (ao.l (F (c_ (a_ e)+i))=ao.l (F (c_ (a_ e)+i)))&&(M (ao.h (F (c_ (a_ e)+i))=ao.h (F (c_ (a_ e)+i)))&&(M (ao.b (F (c_ (a_ e)+i))=ao.b (F (c_ (a_ e)+i)))&&true)))))))))) (B (du f λi=>aB (F (c_ (a_ e)+i))) (B (cq d f) (B (gx f (bS λi=>aB (F (c_ (a_ e)+i)))) (B (cQ {lo:=λj=>if h:j=0 then Node.lo (aq c) 0 else if h:j=1 then Node.lo (aq c) 1 else if h:j=2 then Node.lo (aq c) 2 else if h:j=3 then Node.lo (aq c) 3 else if h:j=4 then Node.lo (aq c) 4 else if h:j=5 then Node.lo (aq c) 5 else if h:j=6 then Node.lo (aq c) 6 else if h:j=7 then Node.lo (aq c) 7 else 0,hi:=λj=>if h:j=0 then Node.hi (aq c) 0 else if h:j=1 then Node.hi (aq c) 1 else if h:j=2 then Node.hi (aq c) 2 else if h:j=3 then Node.hi (aq c) 3 else if h:j=4 then Node.hi (aq c) 4 else if h:j=5 then Node.hi (aq c) 5 else if h:j=6 then Node.hi (aq c) 6 else if h:j=7 then Node.hi (aq c) 7 else 0,l:=Node.l (aq c),r:=Node.r (aq c)}&&cQ {lo:=λj=>if h:j=0 then Node.lo (aq a) 0 else if h:j=1 then Node.lo (aq a) 1 else if h:j=2 then Node.lo (aq a) 2 else if h:j=3 then Node.lo (aq a) 3 else if h:j=4 then Node.lo (aq a) 4 else if h:j=5 then Node.lo (aq a) 5 else if h:j=6 then Node.lo (aq a) 6 else if h:j=7 then Node.lo (aq a) 7 else 0,hi:=λj=>if h:j=0 then Node.hi (aq a) 0 else if h:j=1 then Node.hi (aq a) 1 else if h:j=2 then Node.hi (aq a) 2 else if h:j=3 then Node.hi (aq a) 3 else if h:j=4 then Node.hi (aq a) 4 else if h:j=5 then Node.hi (aq a) 5 else if h:j=6 then Node.hi (aq a) 6 else if h:j=7 then Node.hi (aq a) 7 else 0,l:=Node.l (aq a),r:=Node.r (aq a)}) (Q (x_ [z b_ (qU (Node.lo (aq c) 0) (Node.lo (aq a) 0)),z b_ (qU (Node.lo (aq c) 1) (Node.lo (aq a) 1)),z b_ (qU (Node.lo (aq c) 2) (Node.lo (aq a) 2)),z b_ (qU (Node.lo (aq c) 3) (Node.lo (aq a) 3)),z b_ (qU (Node.lo (aq c) 4) (Node.lo (aq a) 4)),z b_ (qU (Node.lo (aq c) 5) (Node.lo (aq a) 5)),z b_ (qU (Node.lo (aq c) 6) (Node.lo (aq a) 6)),z b_ (qU (Node.lo (aq c) 7) (Node.lo (aq a) 7)),z b_ (qV (Node.hi (aq c) 0) (Node.hi (aq a) 0)),z b_ (qV (Node.hi (aq c) 1) (Node.hi (aq a) 1)),z b_ (qV (Node.hi (aq c) 2) (Node.hi (aq a) 2)),z b_ (qV (Node.hi (aq c) 3) (Node.hi (aq a) 3)),z b_ (qV (Node.hi (aq c) 4) (Node.hi (aq a) 4)),z b_ (qV (Node.hi (aq c) 5) (Node.hi (aq a) 5)),z b_ (qV (Node.hi (aq c) 6) (Node.hi (aq a) 6)),z b_ (qV (Node.hi (aq c) 7) (Node.hi (aq a) 7)),i_ (mW {lo:=λj=>if h:j=0 then Node.lo (aq c) 0 else if h:j=1 then Node.lo (aq c) 1 else if h:j=2 then Node.lo (aq c) 2 else if h:j=3 then Node.lo (aq c) 3 else if h:j=4 then Node.lo (aq c) 4 else if h:j=5 then Node.lo (aq c) 5 else if h:j=6 then Node.lo (aq c) 6 else if h:j=7 then Node.lo (aq c) 7 else 0,hi:=λj=>if h:j=0 then Node.hi (aq c) 0 else if h:j=1 then Node.hi (aq c) 1 else if h:j=2 then Node.hi (aq c) 2 else if h:j=3 then Node.hi (aq c) 3 else if h:j=4 then Node.hi (aq c) 4 else if h:j=5 then Node.hi (aq c) 5 else if h:j=6 then Node.hi (aq c) 6 else if h:j=7 then Node.hi (aq c) 7 else 0,l:=Node.l (aq c),r:=Node.r (aq c)}),i_ (mW {lo:=λj=>if h:j=0 then Node.lo (aq a) 0 else if h:j=1 then Node.lo (aq a) 1 else if h:j=2 then Node.lo (aq a) 2 else if h:j=3 then Node.lo (aq a) 3 else if h:j=4 then Node.lo (aq a) 4 else if h:j=5 then Node.lo (aq a) 5 else if h:j=6 then Node.lo (aq a) 6 else if h:j=7 then Node.lo (aq a) 7 else 0,hi:=λj=>if h:j=0 then Node.hi (aq a) 0 else if h:j=1 then Node.hi (aq a) 1 else if h:j=2 then Node.hi (aq a) 2 else if h:j=3 then Node.hi (aq a) 3 else if h:j=4 then Node.hi (aq a) 4 else if h:j=5 then Node.hi (aq a) 5 else if h:j=6 then Node.hi (aq a) 6 else if h:j=7 then Node.hi (aq a) 7 else 0,l:=Node.l (aq a),r:=Node.r (aq a)}),z b_ 0,z b_ 0,z b_ 0,z b_ 0,z b_ 0,z b_ 0,z b_ 0,z b_ 0,z b_ 0,z b_ 0,k_ 2 1 λi=>Nat.rec (motive:=λx=>y_ (motive:=λx=>List AV->List AV) x->List AV) (λx=>[]) (λm q=>List.casesOn (motive:=λx=>y_ (motive:=λx=>List AV->List AV) (m+1)->List AV) (j_ (0+i*1) [x_ [z b_ (Node.lo (aq c) 0),z b_ (Node.lo (aq c) 1),z b_ (Node.lo (aq c) 2),z b_ (Node.lo (aq c) 3),z b_ (Node.lo (aq c) 4),z b_ (Node.lo (aq c) 5),z b_ (Node.lo (aq c) 6),z b_ (Node.lo (aq c) 7),z b_ (Node.hi (aq c) 0),z b_ (Node.hi (aq c) 1),z b_ (Node.hi (aq c) 2),z b_ (Node.hi (aq c) 3),z b_ (Node.hi (aq c) 4),z b_ (Node.hi (aq c) 5),z b_ (Node.hi (aq c) 6),z b_ (Node.hi (aq c) 7),i_ (Node.l (aq c)),i_ (Node.r (aq c)),z b_ (ao.t (bJ c)),z b_ (ao.s (bJ c)),z b_ (ao.v (bJ c)),z b_ (ao.w (bJ c)),z b_ (ao.o (bJ c)),z b_ (ao.p (bJ c)),z b_ (ao.d (bJ c)),z b_ (ao.l (bJ c)),z b_ (ao.h (bJ c)),z b_ (ao.b (bJ c)),cy c] 0,x_ [z b_ (Node.lo (aq a) 0),z b_ (Node.lo (aq a) 1),z b_ (Node.lo (aq a) 2),z b_ (Node.lo (aq a) 3),z b_ (Node.lo (aq a) 4),z b_ (Node.lo (aq a) 5),z b_ (Node.lo (aq a) 6),z b_ (Node.lo (aq a) 7),z b_ (Node.hi (aq a) 0),z b_ (Node.hi (aq a) 1),z b_ (Node.hi (aq a) 2),z b_ (Node.hi (aq a) 3),z b_ (Node.hi (aq a) 4),z b_ (Node.hi (aq a) 5),z b_ (Node.hi (aq a) 6),z b_ (Node.hi (aq a) 7),i_ (Node.l (aq a)),i_ (Node.r (aq a)),z b_ (ao.t (bJ a)),z b_ (ao.s (bJ a)),z b_ (ao.v (bJ a)),z b_ (ao.w (bJ a)),z b_ (ao.o (bJ a)),z b_ (ao.p (bJ a)),z b_ (ao.d (bJ a)),z b_ (ao.l (bJ a)),z b_ (ao.h (bJ a)),z b_ (ao.b (bJ a)),cy a] 0]) (λx=>[]) λhead tail x=>head::x.1 tail) 1 ⟨λx=>[],PUnit.unit⟩] 0)))))))))))))))):=U
def Fc{n}(h:2<=n):bP n=2^z_ (n-1):=by
 unfold bP;cases a:h_ n 1 with
 |true=>simp_all
 |false=>rfl
def mX{n}(h:2<=n):1<=bP n/\bP n<=n-1/\n<=2*bP n:=by
 rw[Fc h];have a:=Nat.log2_self_le (n:=n-1) O;have b:=Nat.lt_log2_self (n:=n-1);omega
def r7{n d}(h:2<=n)(c:n<=2^d):2*bP n<=2^d:=by
 rw[Fc h];have a:n-1≠0:=O;have b:z_ (n-1)<d:=(Nat.log2_lt a).2 O;have:=s_ (n:=2) O b;omega
def r8:∀(d n)(F),cq d n=true->gx n F=true->cQ (aq (bp d n F))=true:=by
 intro d
 induction d with
 |zero=>intro n F e _;simp only[cq,ba]at e;have a:=fT e.1;have b:=fT e.2;simp at b;omega
 |succ d f=>
  intro n F e h;simp only[cq,ba]at e;have a:=fT e.1;have b:=fT e.2;have c:=List.all_eq_true.1 h;unfold bp;cases j:h_ n 1 with
  |true=>exact QI Y
  |false=>
   have g:2<=n:=Y;have k:=mX g;have hl:=r7 (d:=d) g O;refine QH (f _ _ ?_ ?_) (f _ _ ?_ ?_)
   ·simp only[cq,ba];simp_all
   ·exact List.all_eq_true.2 λi hi=>c i (List.mem_range.2 (by have:=List.mem_range.1 hi;omega))
   ·simp only[cq,ba];exact⟨il O,il O⟩
   ·exact List.all_eq_true.2 λi hi=>c _ (List.mem_range.2 (by have:=List.mem_range.1 hi;omega))
def yW(σ)(n)(x){k}(h:A_ σ k k):bj.le σ (cellsOf n x k) (cellsOf n x k):=⟨⟨rfl,rfl⟩,⟨rfl,rfl⟩,⟨rfl,rfl⟩,⟨rfl,rfl⟩,⟨rfl,rfl⟩,⟨rfl,rfl⟩,⟨rfl,rfl⟩,⟨rfl,rfl⟩,⟨rfl,rfl⟩,⟨rfl,rfl⟩,⟨rfl,rfl⟩,⟨rfl,rfl⟩,⟨rfl,rfl⟩,⟨rfl,rfl⟩,⟨rfl,rfl⟩,⟨rfl,rfl⟩,rfl,rfl,⟨rfl,rfl⟩,⟨rfl,rfl⟩,⟨rfl,rfl⟩,⟨rfl,rfl⟩,⟨rfl,rfl⟩,⟨rfl,rfl⟩,⟨rfl,rfl⟩,⟨rfl,rfl⟩,⟨rfl,rfl⟩,⟨rfl,rfl⟩,h,trivial⟩
def Dj(σ):∀t,A_ σ (cy t) (cy t)
 | .leaf _=>trivial
 | .node l r=>by
  refine⟨rfl,rfl,λi hi=>?_⟩
  match i,hi with
  |0,_=>exact⟨⟨yW σ _ _ (Dj σ l),rfl⟩,trivial⟩
  |1,_=>exact⟨⟨yW σ _ _ (Dj σ r),rfl⟩,trivial⟩
  |k+2,hk=>omega
def U8(σ)(t):A_ σ (dz t) (dz t):=⟨yW σ _ _ (Dj σ t),rfl⟩
def QK(F:Nat->ao)(k m):(M (m=m)&&true&&w_ (List.range.loop m []) λi=>M (ao.t (F (k+i))=ao.t (F (k+i)))&&(M (ao.s (F (k+i))=ao.s (F (k+i)))&&(M (ao.v (F (k+i))=ao.v (F (k+i)))&&(M (ao.w (F (k+i))=ao.w (F (k+i)))&&(M (ao.o (F (k+i))=ao.o (F (k+i)))&&(M (ao.p (F (k+i))=ao.p (F (k+i)))&&(M (ao.d (F (k+i))=ao.d (F (k+i)))&&(M (ao.l (F (k+i))=ao.l (F (k+i)))&&(M (ao.h (F (k+i))=ao.h (F (k+i)))&&(M (ao.b (F (k+i))=ao.b (F (k+i)))&&true))))))))))=true:=by
 simp
def Im{d}(w:d<=19)(q:BK d):BK (d+1):=by
 intro n F e x;have y:=e;simp only[cq,ba]at e;have a:=fT e.1;have b:=fT e.2;have c:=List.all_eq_true.1 x;have C:2^d<=2^19:=s_ O w;have j:n<=2^d:=by rw[Nat.pow_succ]at b;omega
 have J:a_ n=(n:Int):=rfl;refine yR (ks:=[yS,EK,Il d q,QJ]) (T:=[]) (λσ=>U8 σ _) ?_;rw[U7 d n F q];refine aaz (λh=>?_) λh=>?_
 ·simp only[bl]at h;have f:n=1:=O;subst f;refine ZF (bK zC) (ZF (c 0 zA) (ZF (bK zC) (ZF ?_ A)));simp only[decide_true,Bool.and_self]
 ·simp only[je]at h;have f:2<=n:=O;have D:=mX f;have hl:=r7 f j;have r:c_ (a_ n)=n:=rfl;have s:c_ (a_ (bP n)-(0:Int))=bP n:=by
   have:a_ (bP n)=((bP n:Nat):Int):=rfl;omega
  have t:c_ (a_ n-a_ (bP n))=n-bP n:=by have:a_ (bP n)=((bP n:Nat):Int):=rfl;omega
  have u:c_ (a_ (bP n))=bP n:=rfl;have E:(λi=>aB (F (0+i)))=λi=>aB (F i):=by funext i;rw[Nat.zero_add]
  rw[r,s,t,u];have G:bS (λi=>aB (F i))=F:=rfl;have H:bS (λi=>aB (F (bP n+i)))=λi=>F (bP n+i):=rfl
  rw[E,G,H];have I:a_ (bP n)=((bP n:Nat):Int):=rfl;have k:cq d (bP n)=true:=by simp only[cq,ba];exact⟨il D.1,il hl⟩
  have l:cq d (n-bP n)=true:=by simp only[cq,ba];exact⟨il O,il O⟩
  have m:gx (bP n) F=true:=List.all_eq_true.2 λi hi=>c i (List.mem_range.2 (by have:=List.mem_range.1 hi;omega))
  have o:gx (n-bP n) (λi=>F (bP n+i))=true:=List.all_eq_true.2 λi hi=>c _ (List.mem_range.2 (by have:=List.mem_range.1 hi;omega))
  have g:h_ n 1=false:=by
   cases g:h_ n 1 with
   |true=>have:=fT g;omega
   |false=>rfl
  have v:bp (d+1) n F= .node (bp d (bP n) F) (bp d (n-bP n) λi=>F (bP n+i)):=by show(match h_ n 1 with|true=>_|false=>_)=_;rw[g]
  have p:(M (0<=a_ (bP n))&&M (a_ (bP n)<=a_ n)&&M (a_ n<=a_ n))=true:=by simp only[ba,bl];omega
  refine ZF (by simp only[ba,bl];omega) (ZF (by simp only[ba,bl];omega) (ZF (dm _ _) (ZF k (ZF m (ZF p (ZF p (ZF (QK F _ _) (ZF (dm _ λi=>F (bP n+i)) (ZF l (ZF o (ZF ?_ ?_)))))))))))
  ·show(cQ (aq (bp d (bP n) F))&&cQ (aq (bp d (n-bP n) λi=>F (bP n+i))))=true;rw[r8 d _ _ k m,r8 d _ _ l o];rfl
  ·rw[v];clear v g o m l k p I u t s r h
   kernel_rfl
def Io:BK 0:=by
 intro n F c _;simp only[cq,ba]at c;have a:=fT c.1;have b:=fT c.2;simp at b;omega
def BL:∀d,d<=20->BK d
 |0,_=>Io
 |d+1,h=>Im O (BL d O)
def Ky:ax PP II:=Il 20 (BL 20 O)
def ul(c d:Int):Int:=match M (aj d 4=3)with|true=>aj c 2199023255552|false=>aj c 40
def lD(a b c d:Int):ao where
 t:=aj a 30
 s:=aj (d_ a 30) 4
 v:=aj b 2
 w:=aj (d_ b 2) 3
 o:=2*aj b 2+aj (d_ b 3000) 2
 p:=aj (d_ b 6) 5-1
 d:=d_ (aj a 30) 10
 l:=ul c d
 h:=ul c d+aj (d_ d 4) 3*aj (d_ d 12) 30
 b:=aj (d_ b 30) 100
def AW(x f:ao):Bool:=M (x.t<f.t)||(M (x.t=f.t)&&M (x.s<f.s))
def OU(x f:ao):Bool:=M (x.t=f.t)&&M (x.s=f.s)
def dE:List ao->ao->Nat
 |[],_=>0
 |x::l,f=>match AW x f with|true=>dE l f+1|false=>0
def oh:List ao->ao->List ao
 |[],f=>[f]
 |x::l,f=>match AW x f with
  |true=>x::oh l f
  |false=>match OU x f with|true=>x::l|false=>f::x::l
def bm(l:List ao)(i:Nat):ao:=l.getD i dp
def um:∀(l)(f),dE l f<=l.length
 |[],_=>dP _
 |x::l,f=>by
  unfold dE;have:=um l f
  grind
def Kz:∀(l)(f)(k),k<dE l f->AW (bm l k) f=true
 |[],_,_,h=>absurd h (qx _)
 |x::l,f,k,h=>by
  unfold dE at h;split at h
  ·rename_i e;cases k with
   |zero=>exact e
   |succ k=>exact Kz l f k O
  ·omega
def Dk:∀(l)(f),dE l f<l.length->AW (bm l (dE l f)) f=false
 |[],_,h=>Y
 |x::l,f,h=>by
  unfold dE at h⊢;split
  ·rename_i e;rw[e]at h;simp only[l_]at h;exact Dk l f O
  assumption
def uo:∀(l)(f),oh l f=match g_ (dE l f) l.length&&OU (bm l (dE l f)) f with
  |true=>l
  |false=>l.take (dE l f)++f::l.drop (dE l f)
 |[],f=>rfl
 |x::l,f=>by
  have a:=uo l f;unfold oh dE;cases e:AW x f with
  |true=>
   simp only;rw[a];have:(g_ (dE l f+1) (x::l).length)=g_ (dE l f) l.length:=by rw[Bool.eq_iff_iff];simp only[Nat.blt_eq,l_];omega
   have g:bm (x::l) (dE l f+1)=bm l (dE l f):=rfl
   grind
  |false=>rfl
def QL{l f}(h:(g_ (dE l f) l.length&&OU (bm l (dE l f)) f)=false)(i):bm (oh l f) i=if i<dE l f then bm l i else if i=dE l f then f else bm l (i-1):=by
 rw[uo,h];have a:=um l f;simp only[bm,p_]
 grind
def Fe{l f}(h:(g_ (dE l f) l.length&&OU (bm l (dE l f)) f)=false):(oh l f).length=l.length+1:=by
 rw[uo,h]
 grind
def fp(X:Nat->Nat->Int):Nat->List ao
 |0=>[]
 |i+1=>oh (fp X i) (lD (X i 0) (X i 1) (X i 2) (X i 3))
def U9(l)(f):(oh l f).length<=l.length+1:=by
 cases h:(g_ (dE l f) l.length&&OU (bm l (dE l f)) f)with
 |true=>rw[uo,h];simp
 |false=>rw[Fe h];exact dP _
def vD(X):∀i,(fp X i).length<=i
 |0=>dP _
 |i+1=>by have:=U9 (fp X i) (lD (X i 0) (X i 1) (X i 2) (X i 3));have:=vD X i;unfold fp;omega
def small(x:ao):Prop:=(0<=x.t/\x.t<30)/\(0<=x.s/\x.s<4)/\(0<=x.v/\x.v<2)/\(0<=x.w/\x.w<3)/\(0<=x.o/\x.o<4)/\(-1<=x.p/\x.p<4)/\x.d=d_ x.t 10/\0<=x.l/\x.l<=x.h/\x.h<2199023255552+60/\(0<=x.b/\x.b<100)
def QM(c d):0<=ul c d/\ul c d<2199023255552:=by
 unfold ul;split
 ·exact bF O
 ·have:=bF (c:=c) (n:=40) O;omega
def vE{x y:Int}(a:0<=x)(b:x<3)(h3:0<=y)(h4:y<30):0<=x*y/\x*y<=58:=by
 have:x=0∨x=1∨x=2:=O
 grind
def Dl(a b c d):small (lD a b c d):=by
 have h:=bF (c:=a) (n:=30) O;have i:=bF (c:=d_ a 30) (n:=4) O;have h3:=bF (c:=b) (n:=2) O;have h4:=bF (c:=d_ b 2) (n:=3) O;have j:=bF (c:=d_ b 3000) (n:=2) O;have k:=bF (c:=d_ b 6) (n:=5) O;have l:=bF (c:=d_ b 30) (n:=100) O;have m:=QM c d;have f:=bF (c:=d_ d 4) (n:=3) O;have e:=bF (c:=d_ d 12) (n:=30) O;have g:=vE f.1 f.2 e.1 e.2;simp only[small,lD]
 grind
def Ff{l f y}(h:y∈oh l f):y=f∨y∈l:=by
 induction l with
 |nil=>simp only[oh,List.mem_singleton]at h;exact .inl h
 |cons x l a=>
  unfold oh at h
  grind
def wB(X):∀i y,y∈fp X i->small y
 |0,y,h=>by simp[fp]at h
 |i+1,y,h=>by
  unfold fp at h;rcases Ff h with rfl|h
  ·exact Dl _ _ _ _
  ·exact wB X i y h
def QN:List ao->Prop
 |[]=>True
 |x::l=>(∀y∈l,AW x y=true)/\QN l
def MK{a b c}(d:AW a b=true)(e:AW b c=true):AW a c=true:=by
 simp only[AW,Bool.or_eq_true,ba,bl]at*;omega
def ML{a b}(c:AW a b=false)(d:OU a b=false):AW b a=true:=by
 simp only[AW,OU,Bool.or_eq_false_iff,Bool.and_eq_false_iff,je,Bool.or_eq_true,ba,bl]at*;omega
def Fg:∀(l)(f),QN l->QN (oh l f)
 |[],f,_=>⟨λ_ h=>zE,trivial⟩
 |x::l,f,h=>by
  unfold oh;cases e:AW x f with
  |true=>
   refine⟨λy a=>?_,Fg l f h.2⟩;rcases Ff a with rfl|a
   ·exact e
   ·exact h.1 y a
  |false=>
   simp only;cases b:OU x f with
   |true=>exact h
   |false=>
    have:=ML e b;refine⟨λy a=>?_,h⟩;rcases List.mem_cons.1 a with rfl|a
    ·exact this
    ·exact MK this (h.1 y a)
def BM(X):∀i,QN (fp X i)
 |0=>trivial
 |i+1=>Fg _ _ (BM X i)
def yX:∀(l)(i),QN l->i+1<l.length->AW (bm l i) (bm l (i+1))=true
 |[],_,_,h=>by simp at h
 |[_],_,_,h=>by simp at h
 |x::y::l,0,h,_=>h.1 y List.mem_cons_self
 |x::y::l,i+1,h,hi=>yX (y::l) i h.2 Y
def Fh{l i}(h:i<l.length):bm l i∈l:=by
 simp only[bm,p_,oa h,Option.getD_some];simp
abbrev r9:ax PP II:=WU 29 (.inl A)
def eK(X:Nat->Nat->Int)(j:Nat):List AV:=[.int b_ (X j 0),.int b_ (X j 1),.int b_ (X j 2),.int b_ (X j 3)]
def xAV(n:Nat)(X:Nat->Nat->Int):AV:=.ae n 4 (eK X)
def Yp(m:Nat)(F:Nat->ao):aae:=.rows m 10 (λj=>aB (F j)) (.ty 43)
def aah(e:Bool)(m:Nat):AV:=match e with|true=> .aD|false=> .own 12 m 10
def aai(e:Bool)(m:Nat)(F:Nat->ao):List (Nat×aae):=match e with|true=>[]|false=>[(12,Yp m F)]
structure Made where
 (i:Int) (e:Bool) (m:Nat) (F:Nat->ao)
def OV(n:Nat)(X:Nat->Nat->Int)(p:Made):St:={t:=Tr.ofList [(0,xAV n X),(3,aah p.e p.m),(4,.int b_ p.i)],nt:=186,H:={n:=13,t:=Tr.ofList (aai p.e p.m p.F)},df:=[]}
def T7(n:Nat)(X:Nat->Nat->Int)(e:Bool)(i:Int)(m:Nat)(F:Nat->ao):GE:=.cond e (.one (.x 0 (OV n X ⟨i,true,m,F⟩))) (.one (.x 0 (OV n X ⟨i,false,m,F⟩)))
def vF(n:Nat)(X:Nat->Nat->Int)(p:Made)(f:ao)(k:Int):St:={t:=Tr.ofList [(0,xAV n X),(3,aah p.e p.m),(4,.int b_ p.i),(5,.ptr 61 0 0 0),(6,.int b_ k)],nt:=186,H:={n:=96,t:=Tr.ofList ((61,.cells (aB f) (.ty 43))::aai p.e p.m p.F)},df:=[]}
def uq(n:Nat)(X:Nat->Nat->Int)(p:Made)(f:ao)(k:Int):GE:=.one (.x 2 (vF n X p f k))
def Fi(n)(X)(i)(m)(F)(f)(K)(k)(Q):(kr [] [] 10 12034 96 (vF n X ⟨i,true,m,F⟩ f) (λ_=>uq n X ⟨i,true,m,F⟩ f K) (λk=>k+1) Q k)=(ak (M (k<0)) False (zyI f.t (zyI f.s (zyI f.v (zyI f.w (zyI f.o (zyI f.p (zyI f.d (zyI f.l (zyI f.h (zyI f.b (zyN n (zyR n (eK X) (zyI i (aS k K True))))))))))))))):=U
def Ip(n)(X)(i)(m)(F)(f)(K)(k)(Q):(kr [] [] 10 12034 96 (vF n X ⟨i,false,m,F⟩ f) (λ_=>uq n X ⟨i,false,m,F⟩ f K) (λk=>k+1) Q k)=(let a:=(zyI f.t (zyI f.s (zyI f.v (zyI f.w (zyI f.o (zyI f.p (zyI f.d (zyI f.l (zyI f.h (zyI f.b (zyN m ((an m (λj=>aB (F j)) λj=>aB (F j))/\zyN m (zyN n (zyR n (eK X) (zyI i (aS k K True))))))))))))))));let e:=(B (aJ b_ (k+1)) (zyI f.t (zyI f.s (zyI f.v (zyI f.w (zyI f.o (zyI f.p (zyI f.d (zyI f.l (zyI f.h (zyI f.b (zyN m ((an m (λj=>aB (F j)) λj=>aB (F j))/\zyN m (zyN n (zyR n (eK X) (zyI i (zyI (k+1) Q)))))))))))))))));let c:=(M (0<=k)&&M (k<a_ m));(ak (M (k<a_ m)) (B c (B (M (k.toNat<m)) (ak (M (ao.t (F k.toNat)<f.t)) e (B c (B (M (k.toNat<m)) (ak (M (ao.t (F k.toNat)=f.t)) (B c (B (M (k.toNat<m)) (ak (M (ao.s (F k.toNat)<f.s)) e a))) a)))))) a)):=U
def yY(n)(X)(i)(m R)(F T)(f)(V W)(S)(O)(Y)(Q):(kr [r9] [(12034,96,vF n X ⟨i,true,m,F⟩ f 0,uq n X ⟨i,true,m,F⟩ f 0)] 10 3008 12 (OV n X) (λ_=>T7 n X S W O Y) (λ_=>⟨V,false,R,T⟩) Q ⟨i,true,m,F⟩)=(let a:=(M (X i.toNat 1=X i.toNat 1));let c:=(M (0<=i)&&M (i<a_ n));let P:=(aS (aj (d_ (X i.toNat 1) 30) 100) f.b (zyN n (zyR n (eK X) (zyI i (B (aJ b_ (i+1)) (bh 10 (R*10) ((an R (bY [z b_ f.t,z b_ f.s,z b_ f.v,z b_ f.w,z b_ f.o,z b_ f.p,z b_ f.d,z b_ f.l,z b_ f.h,z b_ f.b] 10) λj=>aB (T j))/\bh 1 R (zyN n (zyR n (eK X) (aS (i+1) V Q))))))))));let g:=(d_ (X i.toNat 3) 12);let k:=(d_ (X i.toNat 3) 4);let C:=(M (X i.toNat 2=X i.toNat 2));let D:=(zyN n (zyR n (eK X) (aS i W True)));let N:=(2*aj (X i.toNat 1) 2+aj (d_ (X i.toNat 1) 3000) 2);let E:=(d_ (aj (X i.toNat 0) 30) 10);let q:=(d_ (X i.toNat 1) 6);let r:=(aae.cells (aB f) (Access.ty 43));let G:=(M (aj (X i.toNat 2) 2199023255552=aj (X i.toNat 2) 2199023255552));let u:=(d_ (X i.toNat 0) 30);let y:=(d_ (X i.toNat 1) 2);let I:=(aj (X i.toNat 2) 2199023255552+aj k 3*aj g 30);let J:=(M (aj (X i.toNat 2) 40=aj (X i.toNat 2) 40));let K:=(aj (X i.toNat 2) 40+aj k 3*aj g 30);let L:=(M (X i.toNat 3=X i.toNat 3));(ak (M (i<a_ n)) (ak (M (i<40)) (B c (B (aJ b_ (X i.toNat 0)&&true) (B c (B (M (X i.toNat 0=X i.toNat 0)) (B (aJ b_ u) (B (aJ b_ u&&true) (B c (B a (B a (B (aJ b_ (X i.toNat 1)&&true) (B c (B a (B a (B a (B (aJ b_ y) (B (aJ b_ y&&true) (B c (B a (B a (B a (B a (B (aJ b_ q) (B (aJ b_ q&&true) (B (aJ b_ (aj q 5-1)) (B c (B C (B C (B C (B C (B C (B (aJ b_ (X i.toNat 2)&&true) (B c (B a (B a (B a (B a (B a (B a (B (aJ b_ (d_ (X i.toNat 1) 30)) (B (aJ b_ (d_ (X i.toNat 1) 30)&&true) (B (aJ b_ (2*aj (X i.toNat 1) 2)) (B c (B (aJ b_ (d_ (X i.toNat 1) 3000)) (B (aJ b_ (d_ (X i.toNat 1) 3000)&&true) (B (M (aj (X i.toNat 1) 2=aj (X i.toNat 1) 2)) (B (aJ b_ N) (B c (B (aJ b_ (X i.toNat 3)&&true) (ak (M (aj (X i.toNat 3) 4=3)) (B c (B (aJ b_ (X i.toNat 2)&&true) (B c (B (aJ b_ k) (B (aJ b_ k&&true) (B G (B c (B L (B (aJ b_ g) (B (aJ b_ g&&true) (B G (B (aJ b_ (aj k 3*aj g 30)) (B (aJ b_ I) (B (aJ b_ E) (ay PP II false (az II 10 12034) 96 {t:=.n (.n (.n .e (f_ q_) .e) e_ (.n .e (f_ (o_ 61 0 0 0)) .e)) (f_ (k_ n 4 (eK X))) (.n (.n .e (f_ (z b_ i)) .e) e_ (.n .e (f_ (z b_ 0)) .e)),nt:=186,H:={n:=96,t:=.n (.n .e e_ (.n .e e_ (.n .e e_ (.n .e e_ (.n .e (f_ r) .e))))) e_ .e},df:=[]} (GE.one (aK.x 2 {t:=.n (.n (.n .e (f_ q_) .e) e_ (.n .e (f_ (o_ 61 0 0 0)) .e)) (f_ (k_ n 4 (eK X))) (.n (.n .e (f_ (z b_ i)) .e) e_ (.n .e (f_ (z b_ 0)) .e)),nt:=186,H:={n:=96,t:=.n (.n .e e_ (.n .e e_ (.n .e e_ (.n .e e_ (.n .e (f_ r) .e))))) e_ .e},df:=[]}))/\aS (aj (X i.toNat 0) 30) f.t (aS (aj u 4) f.s (aS (aj (X i.toNat 1) 2) f.v (aS (aj y 3) f.w (aS N f.o (aS (aj q 5-1) f.p (aS E f.d (aS (aj (X i.toNat 2) 2199023255552) f.l (aS I f.h P))))))))))))))))))))))) (B c (B (aJ b_ k) (B (aJ b_ k&&true) (B J (B c (B L (B (aJ b_ g) (B (aJ b_ g&&true) (B J (B (aJ b_ (aj k 3*aj g 30)) (B (aJ b_ K) (B (aJ b_ E) (ay PP II false (az II 10 12034) 96 {t:=.n (.n (.n .e (f_ q_) .e) e_ (.n .e (f_ (o_ 61 0 0 0)) .e)) (f_ (k_ n 4 (eK X))) (.n (.n .e (f_ (z b_ i)) .e) e_ (.n .e (f_ (z b_ 0)) .e)),nt:=186,H:={n:=96,t:=.n (.n .e e_ (.n .e e_ (.n .e e_ (.n .e e_ (.n .e (f_ r) .e))))) e_ .e},df:=[]} (GE.one (aK.x 2 {t:=.n (.n (.n .e (f_ q_) .e) e_ (.n .e (f_ (o_ 61 0 0 0)) .e)) (f_ (k_ n 4 (eK X))) (.n (.n .e (f_ (z b_ i)) .e) e_ (.n .e (f_ (z b_ 0)) .e)),nt:=186,H:={n:=96,t:=.n (.n .e e_ (.n .e e_ (.n .e e_ (.n .e e_ (.n .e (f_ r) .e))))) e_ .e},df:=[]}))/\aS (aj (X i.toNat 0) 30) f.t (aS (aj u 4) f.s (aS (aj (X i.toNat 1) 2) f.v (aS (aj y 3) f.w (aS N f.o (aS (aj q 5-1) f.p (aS E f.d (aS (aj (X i.toNat 2) 40) f.l (aS K f.h P)))))))))))))))))))))))))))))))))))))))))))))))))))))))))))))))))))))) (ak S D (bh O 0 (bh O 0 D)))) (ak S D (bh O 0 (bh O 0 D))))):=U
def BN(n)(X)(i)(m a)(F u)(f)(K r G)(I)(y)(J)(Q):(kr [r9] [(12034,96,vF n X ⟨i,false,m,F⟩ f 0,uq n X ⟨i,false,m,F⟩ f K)] 10 3008 12 (OV n X) (λ_=>T7 n X I G y J) (λ_=>⟨r,false,a,u⟩) Q ⟨i,false,m,F⟩)=(let c:=(B (M (0<=K)&&M (K<=K)&&M (K<=a_ m)&&M (0<m)) (B (M (0<=K)&&M (K<=a_ m)&&M (a_ m<=a_ m)&&M (0<m)) (B (M (K.toNat+c_ (a_ m-K)<=m)&&true&&M ((1+c_ (a_ m-K))*80<=140737488355328)&&true) (ak (M (c_ (a_ m-K)=0)) (B (M (0<=K)&&M (K<=K)&&M (K<=a_ m)&&M (0<m)) (B (M (c_ (K-0)=c_ (K-0))&&M (f_ (c_ (K-0))=f_ (c_ (K-0)))&&true) (B (M (0+c_ (K-0)<=m)&&true&&true&&M ((c_ (K-0)+1)*80<=140737488355328)&&true) (ak (M (c_ (K-0)=c_ (K-0))) (B (aJ b_ (i+1)) (bh (c_ (K-0)+1) a ((an (c_ (K-0)+1) (λi=>bif g_ i (c_ (K-0))then aB (F (0+i))else m_ 10 (j_ (0+(i-c_ (K-0))*10) [z b_ f.t,z b_ f.s,z b_ f.v,z b_ f.w,z b_ f.o,z b_ f.p,z b_ f.d,z b_ f.l,z b_ f.h,z b_ f.b])) λj=>aB (u j))/\bh (c_ (K-0)+1) a (zyN n (zyR n (eK X) (aS (i+1) r Q)))))) (B (aJ b_ (i+1)) (bh (c_ (K-0)+1) a ((an (c_ (K-0)+1) (λi=>bif g_ i (c_ (K-0))then aB (F (0+i))else m_ 10 (j_ (0+(i-c_ (K-0))*10) [z b_ f.t,z b_ f.s,z b_ f.v,z b_ f.w,z b_ f.o,z b_ f.p,z b_ f.d,z b_ f.l,z b_ f.h,z b_ f.b])) λj=>aB (u j))/\bh (c_ (K-0)+1) a (zyN n (zyR n (eK X) (aS (i+1) r Q)))))))))) (B (M (0<=K)&&M (K<=K)&&M (K<=a_ m)&&M (0<m)) (B (M (c_ (K-0)=c_ (K-0))&&M (f_ (c_ (K-0))=f_ (c_ (K-0)))&&true) (B (M (0+c_ (K-0)<=m)&&M (1+c_ (a_ m-K)<=1+c_ (a_ m-K))&&true&&M ((c_ (K-0)+(1+c_ (a_ m-K)))*80<=140737488355328)&&true) (ak (M (1+c_ (a_ m-K)=0)) (B (aJ b_ (i+1)) (bh a 0 False)) (ak (M (c_ (K-0)=c_ (K-0))) (B (aJ b_ (i+1)) (bh (c_ (K-0)+(1+c_ (a_ m-K))) a ((an (c_ (K-0)+(1+c_ (a_ m-K))) (λi=>bif g_ i (c_ (K-0))then aB (F (0+i))else bif g_ (i-c_ (K-0)) 1 then m_ 10 (j_ (0+(i-c_ (K-0))*10) [z b_ f.t,z b_ f.s,z b_ f.v,z b_ f.w,z b_ f.o,z b_ f.p,z b_ f.d,z b_ f.l,z b_ f.h,z b_ f.b])else aB (F (K.toNat+(i-c_ (K-0)-1)))) λj=>aB (u j))/\bh (c_ (K-0)+(1+c_ (a_ m-K))) a (zyN n (zyR n (eK X) (aS (i+1) r Q)))))) (B (aJ b_ (i+1)) (bh (c_ (K-0)+(1+c_ (a_ m-K))) a ((an (c_ (K-0)+(1+c_ (a_ m-K))) (λi=>bif g_ i (c_ (K-0))then aB (F (0+i))else bif g_ (i-c_ (K-0)) 1 then m_ 10 (j_ (0+(i-c_ (K-0))*10) [z b_ f.t,z b_ f.s,z b_ f.v,z b_ f.w,z b_ f.o,z b_ f.p,z b_ f.d,z b_ f.l,z b_ f.h,z b_ f.b])else aB (F (K.toNat+(i-c_ (K-0)-1)))) λj=>aB (u j))/\bh (c_ (K-0)+(1+c_ (a_ m-K))) a (zyN n (zyR n (eK X) (aS (i+1) r Q)))))))))))))));let g:=(aae.rows m 10 (λj=>aB (F j)) (Access.ty 43));let k:=(M (0<=K)&&M (K<a_ m));let q:=(aae.cells (aB f) (Access.ty 43));let C:=(an m (λj=>aB (F j)) λj=>aB (u j));let D:=(an m (λj=>aB (F j)) λj=>aB (J j));let E:=(an m (λj=>aB (F j)) λj=>aB (F j));(ak (M (i<a_ n)) (ak (M (i<40)) (B (M (0<=i)&&M (i<a_ n)) (B (aJ b_ (X i.toNat 0)&&true) (B (M (0<=i)&&M (i<a_ n)) (B (M (X i.toNat 0=X i.toNat 0)) (B (aJ b_ (d_ (X i.toNat 0) 30)) (B (aJ b_ (d_ (X i.toNat 0) 30)&&true) (B (M (0<=i)&&M (i<a_ n)) (B (M (X i.toNat 1=X i.toNat 1)) (B (M (X i.toNat 1=X i.toNat 1)) (B (aJ b_ (X i.toNat 1)&&true) (B (M (0<=i)&&M (i<a_ n)) (B (M (X i.toNat 1=X i.toNat 1)) (B (M (X i.toNat 1=X i.toNat 1)) (B (M (X i.toNat 1=X i.toNat 1)) (B (aJ b_ (d_ (X i.toNat 1) 2)) (B (aJ b_ (d_ (X i.toNat 1) 2)&&true) (B (M (0<=i)&&M (i<a_ n)) (B (M (X i.toNat 1=X i.toNat 1)) (B (M (X i.toNat 1=X i.toNat 1)) (B (M (X i.toNat 1=X i.toNat 1)) (B (M (X i.toNat 1=X i.toNat 1)) (B (aJ b_ (d_ (X i.toNat 1) 6)) (B (aJ b_ (d_ (X i.toNat 1) 6)&&true) (B (aJ b_ (aj (d_ (X i.toNat 1) 6) 5-1)) (B (M (0<=i)&&M (i<a_ n)) (B (M (X i.toNat 2=X i.toNat 2)) (B (M (X i.toNat 2=X i.toNat 2)) (B (M (X i.toNat 2=X i.toNat 2)) (B (M (X i.toNat 2=X i.toNat 2)) (B (M (X i.toNat 2=X i.toNat 2)) (B (aJ b_ (X i.toNat 2)&&true) (B (M (0<=i)&&M (i<a_ n)) (B (M (X i.toNat 1=X i.toNat 1)) (B (M (X i.toNat 1=X i.toNat 1)) (B (M (X i.toNat 1=X i.toNat 1)) (B (M (X i.toNat 1=X i.toNat 1)) (B (M (X i.toNat 1=X i.toNat 1)) (B (M (X i.toNat 1=X i.toNat 1)) (B (aJ b_ (d_ (X i.toNat 1) 30)) (B (aJ b_ (d_ (X i.toNat 1) 30)&&true) (B (aJ b_ (2*aj (X i.toNat 1) 2)) (B (M (0<=i)&&M (i<a_ n)) (B (aJ b_ (d_ (X i.toNat 1) 3000)) (B (aJ b_ (d_ (X i.toNat 1) 3000)&&true) (B (M (aj (X i.toNat 1) 2=aj (X i.toNat 1) 2)) (B (aJ b_ (2*aj (X i.toNat 1) 2+aj (d_ (X i.toNat 1) 3000) 2)) (B (M (0<=i)&&M (i<a_ n)) (B (aJ b_ (X i.toNat 3)&&true) (ak (M (aj (X i.toNat 3) 4=3)) (B (M (0<=i)&&M (i<a_ n)) (B (aJ b_ (X i.toNat 2)&&true) (B (M (0<=i)&&M (i<a_ n)) (B (aJ b_ (d_ (X i.toNat 3) 4)) (B (aJ b_ (d_ (X i.toNat 3) 4)&&true) (B (M (aj (X i.toNat 2) 2199023255552=aj (X i.toNat 2) 2199023255552)) (B (M (0<=i)&&M (i<a_ n)) (B (M (X i.toNat 3=X i.toNat 3)) (B (aJ b_ (d_ (X i.toNat 3) 12)) (B (aJ b_ (d_ (X i.toNat 3) 12)&&true) (B (M (aj (X i.toNat 2) 2199023255552=aj (X i.toNat 2) 2199023255552)) (B (aJ b_ (aj (d_ (X i.toNat 3) 4) 3*aj (d_ (X i.toNat 3) 12) 30)) (B (aJ b_ (aj (X i.toNat 2) 2199023255552+aj (d_ (X i.toNat 3) 4) 3*aj (d_ (X i.toNat 3) 12) 30)) (B (aJ b_ (d_ (aj (X i.toNat 0) 30) 10)) (ay PP II false (az II 10 12034) 96 {t:=.n (.n (.n .e (f_ (u_ 12 m 10)) .e) e_ (.n .e (f_ (o_ 61 0 0 0)) .e)) (f_ (k_ n 4 (eK X))) (.n (.n .e (f_ (z b_ i)) .e) e_ (.n .e (f_ (z b_ 0)) .e)),nt:=186,H:={n:=96,t:=.n (.n .e e_ (.n .e e_ (.n .e e_ (.n .e e_ (.n .e (f_ q) .e))))) e_ (.n (.n .e e_ (.n .e (f_ g) .e)) e_ .e)},df:=[]} (GE.one (aK.x 2 {t:=.n (.n (.n .e (f_ (u_ 12 m 10)) .e) e_ (.n .e (f_ (o_ 61 0 0 0)) .e)) (f_ (k_ n 4 (eK X))) (.n (.n .e (f_ (z b_ i)) .e) e_ (.n .e (f_ (z b_ K)) .e)),nt:=186,H:={n:=96,t:=.n (.n .e e_ (.n .e e_ (.n .e e_ (.n .e e_ (.n .e (f_ q) .e))))) e_ (.n (.n .e e_ (.n .e (f_ g) .e)) e_ .e)},df:=[]}))/\aS (aj (X i.toNat 0) 30) f.t (aS (aj (d_ (X i.toNat 0) 30) 4) f.s (aS (aj (X i.toNat 1) 2) f.v (aS (aj (d_ (X i.toNat 1) 2) 3) f.w (aS (2*aj (X i.toNat 1) 2+aj (d_ (X i.toNat 1) 3000) 2) f.o (aS (aj (d_ (X i.toNat 1) 6) 5-1) f.p (aS (d_ (aj (X i.toNat 0) 30) 10) f.d (aS (aj (X i.toNat 2) 2199023255552) f.l (aS (aj (X i.toNat 2) 2199023255552+aj (d_ (X i.toNat 3) 4) 3*aj (d_ (X i.toNat 3) 12) 30) f.h (aS (aj (d_ (X i.toNat 1) 30) 100) f.b (zyN m (E/\zyN m (zyN n (zyR n (eK X) (zyI i (ak (M (K<a_ m)) (B k (B (M (K.toNat<m)) (ak (M (ao.t (F K.toNat)=f.t)) (B k (B (M (K.toNat<m)) (ak (M (ao.s (F K.toNat)=f.s)) (B (aJ b_ (i+1)) (bh m a (C/\bh m a (zyN n (zyR n (eK X) (aS (i+1) r Q)))))) c))) c))) c)))))))))))))))))))))))))))))) (B (M (0<=i)&&M (i<a_ n)) (B (aJ b_ (d_ (X i.toNat 3) 4)) (B (aJ b_ (d_ (X i.toNat 3) 4)&&true) (B (M (aj (X i.toNat 2) 40=aj (X i.toNat 2) 40)) (B (M (0<=i)&&M (i<a_ n)) (B (M (X i.toNat 3=X i.toNat 3)) (B (aJ b_ (d_ (X i.toNat 3) 12)) (B (aJ b_ (d_ (X i.toNat 3) 12)&&true) (B (M (aj (X i.toNat 2) 40=aj (X i.toNat 2) 40)) (B (aJ b_ (aj (d_ (X i.toNat 3) 4) 3*aj (d_ (X i.toNat 3) 12) 30)) (B (aJ b_ (aj (X i.toNat 2) 40+aj (d_ (X i.toNat 3) 4) 3*aj (d_ (X i.toNat 3) 12) 30)) (B (aJ b_ (d_ (aj (X i.toNat 0) 30) 10)) (ay PP II false (az II 10 12034) 96 {t:=.n (.n (.n .e (f_ (u_ 12 m 10)) .e) e_ (.n .e (f_ (o_ 61 0 0 0)) .e)) (f_ (k_ n 4 (eK X))) (.n (.n .e (f_ (z b_ i)) .e) e_ (.n .e (f_ (z b_ 0)) .e)),nt:=186,H:={n:=96,t:=.n (.n .e e_ (.n .e e_ (.n .e e_ (.n .e e_ (.n .e (f_ q) .e))))) e_ (.n (.n .e e_ (.n .e (f_ g) .e)) e_ .e)},df:=[]} (GE.one (aK.x 2 {t:=.n (.n (.n .e (f_ (u_ 12 m 10)) .e) e_ (.n .e (f_ (o_ 61 0 0 0)) .e)) (f_ (k_ n 4 (eK X))) (.n (.n .e (f_ (z b_ i)) .e) e_ (.n .e (f_ (z b_ K)) .e)),nt:=186,H:={n:=96,t:=.n (.n .e e_ (.n .e e_ (.n .e e_ (.n .e e_ (.n .e (f_ q) .e))))) e_ (.n (.n .e e_ (.n .e (f_ g) .e)) e_ .e)},df:=[]}))/\aS (aj (X i.toNat 0) 30) f.t (aS (aj (d_ (X i.toNat 0) 30) 4) f.s (aS (aj (X i.toNat 1) 2) f.v (aS (aj (d_ (X i.toNat 1) 2) 3) f.w (aS (2*aj (X i.toNat 1) 2+aj (d_ (X i.toNat 1) 3000) 2) f.o (aS (aj (d_ (X i.toNat 1) 6) 5-1) f.p (aS (d_ (aj (X i.toNat 0) 30) 10) f.d (aS (aj (X i.toNat 2) 40) f.l (aS (aj (X i.toNat 2) 40+aj (d_ (X i.toNat 3) 4) 3*aj (d_ (X i.toNat 3) 12) 30) f.h (aS (aj (d_ (X i.toNat 1) 30) 100) f.b (zyN m (E/\zyN m (zyN n (zyR n (eK X) (zyI i (ak (M (K<a_ m)) (B k (B (M (K.toNat<m)) (ak (M (ao.t (F K.toNat)=f.t)) (B k (B (M (K.toNat<m)) (ak (M (ao.s (F K.toNat)=f.s)) (B (aJ b_ (i+1)) (bh m a (C/\bh m a (zyN n (zyR n (eK X) (aS (i+1) r Q)))))) c))) c))) c))))))))))))))))))))))))))))))))))))))))))))))))))))))))))))))))))))))))))))) (ak I False (bh m y (D/\bh m y (zyN n (zyR n (eK X) (aS i G True))))))) (ak I False (bh m y (D/\bh m y (zyN n (zyR n (eK X) (aS i G True)))))))):=U
def BO(n)(X)(c)(d)(a)(b)(Q):(kb [] [(3008,12,OV n X ⟨0,true,0,b⟩,T7 n X d c a b)] 10 [xAV n X] Q)=(ay PP II false (az II 10 3008) 12 {t:=.n (.n (.n .e (f_ q_) .e) e_ .e) (f_ (k_ n 4 (eK X))) (.n (.n .e (f_ (z b_ 0)) .e) e_ .e),nt:=186,H:={n:=13,t:=.e},df:=[]} (GE.cond d (GE.one (aK.x 0 {t:=.n (.n (.n .e (f_ q_) .e) e_ .e) (f_ (k_ n 4 (eK X))) (.n (.n .e (f_ (z b_ c)) .e) e_ .e),nt:=186,H:={n:=13,t:=.e},df:=[]})) (GE.one (aK.x 0 {t:=.n (.n (.n .e (f_ (u_ 12 a 10)) .e) e_ .e) (f_ (k_ n 4 (eK X))) (.n (.n .e (f_ (z b_ c)) .e) e_ .e),nt:=186,H:={n:=13,t:=.n .e e_ (.n (.n .e e_ (.n .e (f_ (aae.rows a 10 (λj=>aB (b j)) (Access.ty 43))) .e)) e_ .e)},df:=[]})))/\zyN n (zyR n (eK X) (ak d (Q q_) (B ((w_ (List.range.loop a []) λi=>true)&&M (a<=a)) (Q (k_ a 10 λj=>aB (b j))))))):=U
end
end Go.Sx
