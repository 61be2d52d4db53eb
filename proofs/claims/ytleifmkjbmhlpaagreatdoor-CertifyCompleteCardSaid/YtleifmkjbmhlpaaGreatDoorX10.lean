/- The proof of a statement of the seat, part 10. -/
import Derived.Test.YtleifmkjbmhlpaaGreatDoorX07
import Derived.Test.YtleifmkjbmhlpaaGreatDoorX09
import Derived.Laws.Externs
import Derived.Test.YtleifmkjbmhlpaaGreatDoorX01
set_option linter.all false
set_option linter.defProp false
set_option maxRecDepth 1000000
namespace Go.Sx
open Go
open Int renaming ofNat->M,emod->e_,toNat->h_,tdiv->m_,tmod->p_,emod_eq_of_lt->q_,toNat_natCast->u_,mul_assoc->B_,natCast_pow->F_,fdiv->H_,mul_comm->M_,natCast_nonneg->T_,natCast_ediv->W_,natCast_mul->Y_,ne_of_gt->f?,pow_succ->g?,zero_mul->h?,emod_def->i?,add_mul->m?
open Decidable renaming decide->z
open List renaming length->a_,take->f_,drop->g_,all->n_,append->t_,range->A_,getD_eq_getElem?_getD->G_,take_of_length_le->K_,getElem?_eq_none->O_,length_append->Q_,take_length->U_
open Go.IntKind renaming i64->b_
open AH renaming blank->c_
open AV renaming int->d_,bool->o_,ae->D_,le->a?,str->b?,bM->q?
open Nat renaming blt->i_,pow_succ->k_,mod_eq_of_lt->l_,div_div_eq_div_mul->r_,div_lt_iff_lt_mul->s_,beq->v_,mul_comm->x_,mul_le_mul_left->z_,lt_of_le_of_lt->C_,ble->E_,add_mul_mod_self_left->J_,xor->L_,lt_or_ge->N_,blt_eq->S_,div_eq_of_lt->V_,two_pow_pos->X_,land->Z_,add_assoc->c?,mul_assoc->d?,lor->e?,mod_one->j?,mod_mul->k?,zero_le->l?,mod_lt->o?,log2->p?
open Tr renaming ofList->j_
open And renaming intro->w_
open UInt8 renaming ofNat->y_
open Bool renaming not_eq_false'->P_,not_eq_true'->R_
noncomputable section
noncomputable abbrev PP:Program:=Go.Proofs.Tryz.prog
noncomputable def II:bg:=Go.Proofs.Tryz.P8.ZU false
theorem fU:II.Ok PP:=Go.Proofs.Tryz.P9.ok false
noncomputable abbrev kb(ks:List (ax PP II))(T:l6)(f:FuncId)(args:List AV)(Q:AV->Prop):Prop :=
 ka ks (mO PP II T) 1000 f args (c_ 12) (fk 12 Q) (λ_ _=>False)
noncomputable abbrev kr{ι:Type}(ks:List (ax PP II))(T:l6)(f key n0:Nat)(S:ι->St)(E:ι->GE)(a:ι->ι)(Q:Prop)(i:ι):Prop :=
 w7 ks (mO PP II T) 1000 false (.code (az II f key)) (S i) (wo n0 S E a Q i)
theorem bQ{ks T f args a'}(b:∀σ,a? σ a' a')(h:kb ks T f args (λa=>a=a')):af PP II f args (c_ 12) (.ret a' (c_ 12)):=
 af.ZR fU ks (aX PP II T) 1000 b h
theorem B.iff{b x}:B b x↔b=true/\x:=by cases b with|true=>exact⟨λh=>⟨rfl,h⟩,λh=>h.2⟩|false=>exact⟨λh=>h.elim,λh=>by cases h.1⟩
theorem ai{n}(a : -9223372036854775808<=n)(b:n<=9223372036854775807):aJ b_ n=true:=by
 simp only[aJ,ba,kQ];exact⟨a,b⟩
theorem pP{n}:aJ b_ n=true↔ -9223372036854775808<=n/\n<=9223372036854775807:=by
 simp only[aJ,ba,kQ];exact Iff.rfl
theorem L0(n lo hi)(Q):(kb [] [] 76 [.int b_ n,.int b_ lo,.int b_ hi] Q)=
 (ak (z (n>=lo)) (Q (o_ (z (n<=hi)))) (Q (o_ false))):=U
theorem L1(n lo hi):af PP II 76 [.int b_ n,.int b_ lo,.int b_ hi] (c_ 12) (.ret (.bool (z (n>=lo)&&z (n<=hi))) (c_ 12)):=by
 refine bQ (ks:=[]) (T:=[]) (λ_=>rfl) ((L0 n lo hi _).mpr ?_);refine aaz (λh=>?_) (λh=>?_)
 all_goals grind
noncomputable def Db:ax PP II:=ax.pure 76
 (λX args a=>match args with
  |[.int b_ n,.int b_ lo,.int b_ hi]=>a (.bool (z (n>=lo)&&z (n<=hi)))
  |_=>X.fail)
 λX sem hX args a h=>by
  split at h
  ·exact⟨_,h,λ_=>rfl,λ_=>rfl,L1 _ _ _⟩
  ·exact zR
def bP(n:Nat):Nat:=match E_ n 1 with|true=>1|false=>2^p? (n-1)
noncomputable def XL(n k:Int):St:={t:=j_ [(0,.int b_ n),(3,.int b_ k)],nt:=11,H:=c_ 12,df:=[]}
noncomputable def Zr(n:Int)(m:Nat):GE:=.one (.x 0 (XL n (bP m)))
theorem L2(n k)(m)(Q):(kr [] [] 73 2004 12 (XL n) (λ_=>Zr n m) (λk=>2*k) Q k)=
 (B (aJ b_ ((2:Int)*k))
 (ak (z ((2:Int)*k<n))
  (B (aJ b_ (k*(2:Int))) (aS (k*(2:Int)) ((2:Int)*k) (zyI n Q)))
  (aS k (M (bP m)) (zyI n True)))):=U
theorem UB(n)(m)(Q):(kb [] [(2004,12,XL n 1,Zr n m)] 73 [.int b_ n] Q)=
 (ay PP II false (az II (73:Nat) (2004:Nat)) (12:Nat) (XL n (1:Int)) (Zr n m)/\
 zyI n (Q (d_ b_ (M (bP m))))):=U
theorem Qa{n a}(c:2^a=1∨2^a<n)(d:n<=2*2^a):2^a=bP n:=by
 unfold bP;have f:0<2^a:=X_ a;cases b:E_ n 1 with
 |true=>have:=fT b;show _=1;omega
 |false=>
  have g :¬ n<=1:=λe=>by rw[il e]at b;cases b
  show _=2^p? (n-1);congr 1;refine(((Nat.log2_eq_iff O).2 ⟨O,?_⟩)).symm;omega
theorem L3{n:Nat}(c:n<=1000000):ay PP II false (az II 73 2004) 12 (XL n 1) (Zr n n):=
 ay.of (ι:=Int) fU [] (aX PP II []) 1000 12 (λk=> ∃a,k=((2^a:Nat):Int)/\(2^a=1∨2^a<n)) (XL n) (λ_=>Zr n n) (λk=>(2*n-k).toNat) (λk=>2*k) 1 A ⟨0,rfl,.inl A⟩ λk b=>by
  obtain⟨a,rfl,ha⟩:=b;have d:0<2^a:=X_ a;refine(L2 n _ n _).mpr (ZF (ai O O) (aaz (λh=>ZF (ai O O) (aag O (aag A ?_))) λh=>aag ?_ (aag A trivial)))
  ·simp only[bl]at h;exact⟨⟨a+1,O,O⟩,O,rfl⟩
  ·simp only[je]at h;exact congrArg M (Qa ha O)
theorem UC{n:Nat}(a:n<=1000000):af PP II 73 [.int b_ n] (c_ 12) (.ret (.int b_ (bP n)) (c_ 12)):=
 bQ (T:=[(2004,12,XL n 1,Zr n n)]) (λ_=>⟨rfl,rfl⟩) ((UB n n _).mpr ⟨L3 a,aag A A⟩)
noncomputable def EK:ax PP II:=ax.pure 73
 (λX args a=>match args with
  |[.int b_ n]=>X.ag (z (0<=n)&&z (n<=1000000)) (a (.int b_ (bP n.toNat)))
  |_=>X.fail)
 λX sem hX args a h=>by
  split at h
  ·obtain⟨b,c⟩:=hX.ag _ _ h;simp only[ba,bl]at b;refine⟨_,c,λ_=>rfl,λ_=>rfl,?_⟩;have:=UC (n := ‹Int›.toNat) O
   rwa[Int.toNat_of_nonneg b.1]at this
  ·exact zR
theorem UD(c n)(Q):(kb [] [] 29 [.int b_ c,.int b_ n] Q)=(ak (z (c<0)) (B (aJ b_ (c+1)) (B (aJ b_ (0-(c+1))) (B (!decide (n=0)) (Q (d_ b_ (p_ (0-(c+1)) n)))))) (B (!decide (n=0)) (Q (d_ b_ (p_ c n))))):=U
theorem L4(c n)(Q):(kb [] [] 67 [.int b_ c,.int b_ n] Q)=(ak (z (c<0)) (B (aJ b_ (c+1)) (B (aJ b_ (0-(c+1))) (B (!decide (n=0)) (Q (d_ b_ (p_ (0-(c+1)) n)))))) (B (!decide (n=0)) (Q (d_ b_ (p_ c n))))):=U
def aj(c n:Int):Int:=match z (c<0)with|true=>(-(c+1))%n|false=>c%n
theorem bF{c n}(a:0<n):0<=aj c n/\aj c n<n:=by
 unfold aj;split<;>exact⟨Int.emod_nonneg _ O,Int.emod_lt_of_pos _ a⟩
theorem UE{c n}(b:aJ b_ c=true)(d:0<n):af PP II 29 [.int b_ c,.int b_ n] (c_ 12) (.ret (.int b_ (aj c n)) (c_ 12)):=by
 rw[pP]at b;refine bQ (ks:=[]) (T:=[]) (λ_=>⟨rfl,rfl⟩) ((UD c n _).mpr (aaz (λh=>?_) (λh=>?_)))
 ·have a:=h;simp only[bl]at a;refine ZF (ai O O) (ZF (ai O O) (ZF zJ ?_));unfold aj
  grind
 ·have a:=h;simp only[je]at a;refine ZF zJ ?_;unfold aj
  grind
theorem L5{c n}(b:aJ b_ c=true)(d:0<n):af PP II 67 [.int b_ c,.int b_ n] (c_ 12) (.ret (.int b_ (aj c n)) (c_ 12)):=by
 rw[pP]at b;refine bQ (ks:=[]) (T:=[]) (λ_=>⟨rfl,rfl⟩) ((L4 c n _).mpr (aaz (λh=>?_) (λh=>?_)))
 ·have a:=h;simp only[bl]at a;refine ZF (ai O O) (ZF (ai O O) (ZF zJ ?_));unfold aj
  grind
 ·have a:=h;simp only[je]at a;refine ZF zJ ?_;unfold aj
  grind
noncomputable def WU(f:FuncId)(d:f=29∨f=67):ax PP II:=ax.pure f
 (λX args b=>match args with
  |[.int b_ c,.int b_ n]=>X.ag (aJ b_ c&&z (0<n)) (b (.int b_ (aj c n)))
  |_=>X.fail)
 λX sem hX args b h=>by
  split at h
  ·obtain⟨a,e⟩:=hX.ag _ _ h;simp only[ba,bl]at a;refine⟨_,e,λ_=>rfl,λ_=>rfl,?_⟩;rcases d with rfl|rfl
   ·exact UE a.1 a.2
   ·exact L5 a.1 a.2
  ·exact zR
def ud(a b:Int):Int:=if a<b then -1 else if a>b then 1 else 0
theorem HU(a b)(Q):(kb [] [] 110 [.int b_ a,.int b_ b] Q)=(ak (!decide (a=a)) (ak (!decide (b=b)) (Q (d_ b_ 0)) (Q (d_ b_ (-1:Int)))) (ak (!decide (b=b)) (Q (d_ b_ 1)) (ak (z (a<b)) (Q (d_ b_ (-1:Int))) (ak (z (a>b)) (Q (d_ b_ 1)) (Q (d_ b_ 0)))))):=U
theorem HV(a b):af PP II 110 [.int b_ a,.int b_ b] (c_ 12) (.ret (.int b_ (ud a b)) (c_ 12)):=by
 refine bQ (ks:=[]) (T:=[]) (λ_=>⟨rfl,rfl⟩) ((HU a b _).mpr ?_);unfold ud;refine aaz zA (λ_=>aaz zA (λ_=>aaz (λh=>?_) (λh=>aaz (λc=>?_) (λc=>?_))))
 all_goals grind
noncomputable def oI:ax PP II:=ax.pure 110
 (λX args c=>match args with
  |[.int b_ a,.int b_ b]=>c (.int b_ (ud a b))
  |_=>X.fail)
 λX sem hX args c h=>by
  split at h
  ·exact⟨_,h,λ_=>rfl,λ_=>rfl,HV _ _⟩
  ·exact zR
def XM(a b:Int):Int:=if a=0 then b else a
theorem ZW(a b)(Q):(kb [] [] 116 [.ae 2 1 (λi=>match i with|0=>[.int b_ a]|_=>[.int b_ b])] Q)=
 (ak (!decide (a=(0:Int))) (Q (d_ b_ a))
 (B (aJ b_ (1:Int))
  (ak (!decide (b=(0:Int))) (Q (d_ b_ b))
   (B (aJ b_ (2:Int)) (Q (d_ b_ (0:Int))))))):=U
theorem ZX(a b):af PP II 116 [.ae 2 1 (λi=>match i with|0=>[.int b_ a]|_=>[.int b_ b])] (c_ 12) (.ret (.int b_ (XM a b)) (c_ 12)):=by
 refine bQ (ks:=[]) (T:=[]) (λ_=>⟨rfl,rfl⟩) ((ZW a b _).mpr ?_);unfold XM
 repeat' (first|refine aaz (λ_=>?_) (λ_=>?_)|refine ZF (ai O O) ?_)
 all_goals simp_all
theorem aV.yA{ρ a b vs}(h:bj.le (λl=>l) a b)(k:aV ρ a vs):aV ρ b vs:=aV.le a b vs h k
theorem af.cS{P I f args args' H o}(h:af P I f args' H o)(k:bj.le (λl=>l) args args'):af P I f args H o :=
 λc ρ w vs hG a b=>h c ρ w vs hG (aV.yA k a) b
noncomputable def kOr:ax PP II:=ax.pure 116
 (λX args c=>match args with
  |[.ae 2 1 f]=>match f 0,f 1 with
   |[.int b_ a],[.int b_ b]=>c (.int b_ (XM a b))
   |_,_=>X.fail
  |_=>X.fail)
 λX sem hX args c h=>by
  split at h
  ·split at h
   ·rename_i f _ _ a b d e;refine⟨_,h,λ_=>rfl,λ_=>rfl,(ZX a b).cS ⟨⟨rfl,rfl,λi hi=>?_⟩,trivial⟩⟩
    match i,hi with
    |0,_=>rw[d];exact⟨⟨rfl,rfl⟩,trivial⟩
    |1,_=>rw[e];exact⟨⟨rfl,rfl⟩,trivial⟩
   ·exact zR
  ·exact zR
structure ao where
 (t s v w o p d l h b:Int)
 deriving DecidableEq
def aB(x:ao):List AV:=[.int b_ x.t,.int b_ x.s,.int b_ x.v,.int b_ x.w,.int b_ x.o,.int b_ x.p,.int b_ x.d,.int b_ x.l,.int b_ x.h,.int b_ x.b]
def jJ:List AV->Option ao
 |[.int b_ t,.int b_ s,.int b_ v,.int b_ w,.int b_ o,.int b_ p,.int b_ d,.int b_ l,.int b_ h,.int b_ b]=>Option.some ⟨t,s,v,w,o,p,d,l,h,b⟩
 |_=>Option.none
theorem gI{cs x}(h:jJ cs=Option.some x):cs=aB x:=by
 unfold jJ at h;split at h
 ·cases h;rfl
 ·cases h
theorem Qb(x)(Q):(kb [Db] [] 38 [.agg (aB x)] Q)=(ak (z (x.t>=0)&&z (x.t<=999)) (ak (z (x.s>=0)&&z (x.s<=9)) (ak (z (x.v>=0)&&z (x.v<=7)) (ak (z (x.w>=0)&&z (x.w<=9)) (ak (z (x.o>=0)&&z (x.o<=11)) (ak (z (x.p>=(-1:Int))&&z (x.p<=19)) (B (aJ b_ (m_ x.t 10)) (ak (z (x.d=m_ x.t 10)) (ak (z (x.l>=0)&&z (x.l<=x.h)) (ak (z (x.h<=4398046511104)) (Q (o_ (z (x.b>=0)&&z (x.b<=24000)))) (Q (o_ false))) (Q (o_ false))) (Q (o_ false)))) (Q (o_ false))) (Q (o_ false))) (Q (o_ false))) (Q (o_ false))) (Q (o_ false))) (Q (o_ false))):=U
theorem HW(x y)(Q):(kb [oI,kOr] [] 69 [.agg (aB x),.agg (aB y)] Q)=
 (B (z (ao.s x=ao.s x))
 (B (z (ao.s y=ao.s y))
  (Q (d_ b_ (XM (ud (ao.t x) (ao.t y)) (ud (ao.s x) (ao.s y))))))):=U
def bE(x:ao):Bool :=
 (z (x.t>=0)&&z (x.t<=999))&&(z (x.s>=0)&&z (x.s<=9))&&(z (x.v>=0)&&z (x.v<=7))&&(z (x.w>=0)&&z (x.w<=9))&&(z (x.o>=0)&&z (x.o<=11))&&
 (z (x.p>= -1)&&z (x.p<=19))&&z (x.d=m_ x.t 10)&&(z (x.l>=0)&&z (x.l<=x.h))&&z (x.h<=4398046511104)&&(z (x.b>=0)&&z (x.b<=24000))
theorem Qc(x):af PP II 38 [.agg (aB x)] (c_ 12) (.ret (.bool (bE x)) (c_ 12)):=by
 refine bQ (ks:=[Db]) (T:=[]) (λ_=>rfl) ((Qb x _).mpr ?_);unfold bE
 repeat' (first
  |(refine B.iff.2 ⟨?_,?_⟩)
  |(refine aaz (λh=>?_) (λh=>?_)))
 all_goals(try simp only[*,Bool.true_and,Bool.false_and,Bool.and_true,Bool.and_false])
 simp only[ba,bl]at*;exact ai Y Y
noncomputable def lA:ax PP II:=ax.pure 38
 (λX args a=>match args with
  |[.agg cs]=>match jJ cs with
   |some x=>a (.bool (bE x))
   |none=>X.fail
  |_=>X.fail)
 λX sem hX args a h=>by
  split at h
  ·split at h
   ·rename_i cs x hx;have:=gI hx;subst this;exact⟨_,h,λ_=>rfl,λ_=>rfl,Qc _⟩
   ·exact zR
  ·exact zR
def jh(x y:ao):Int:=XM (ud x.t y.t) (ud x.s y.s)
theorem HX(x y):af PP II 69 [.agg (aB x),.agg (aB y)] (c_ 12) (.ret (.int b_ (jh x y)) (c_ 12)):=
 bQ (ks:=[oI,kOr]) (T:=[]) (λ_=>⟨rfl,rfl⟩) ((HW x y _).mpr (ZF zA (ZF zA A)))
noncomputable def mP:ax PP II:=ax.pure 69
 (λX args a=>match args with
  |[.agg cs,.agg ds]=>match jJ cs,jJ ds with
   |some x,some y=>a (.int b_ (jh x y))
   |_,_=>X.fail
  |_=>X.fail)
 λX sem hX args a h=>by
  split at h
  ·split at h
   ·rename_i cs ds _ _ x y hx b;have c:=gI hx;have d:=gI b;subst c d;exact⟨_,h,λ_=>rfl,λ_=>rfl,HX _ _⟩
   ·exact zR
  ·exact zR
def cZ(n:Nat)(F:Nat->ao):AV:=.ae n 10 (λi=>aB (F i))
noncomputable def Zs(n:Nat)(F:Nat->ao)(i:Int):St:={t:=j_ [(0,cZ n F),(1,.fn 69 [] []),(5,.int b_ i)],nt:=25,H:=c_ 12,df:=[]}
noncomputable def Zt(n:Nat)(F:Nat->ao)(b:Bool):GE:=.cond b (.one (.x 0 {t:=.e,nt:=25,H:=c_ 12,df:=[]})) (.one (.r {t:=j_ [(4,.bool false)],nt:=25,H:=c_ 12,df:=[]}))
theorem EL(n)(F)(b)(i)(Q):(kr [mP] [] 70 2002 12 (Zs n F) (λ_=>Zt n F b) (λi=>i-1) Q i)=(ak (z (i>0)) (B (z (0<=i)&&z (i<M n)) (B (aJ b_ (i-1)) (B (z (0<=i-1)&&z (i-1<M n)) (ak (z (jh (F i.toNat) (F (h_ (i-1)))<0)) (ak b False (false=false/\True)) (B (aJ b_ (i-1)) (zyI (i-1) (zyN n ((an n (λi=>aB (F i)) λi=>aB (F i))/\Q)))))))) (ak b True False)):=U
theorem L6(n)(F)(b)(Q):(kb [mP] [(2002,12,Zs n F (n-1),Zt n F b)] 70 [cZ n F,.fn 69 [] []] Q)=(B (aJ b_ (M n-1)) (ay PP II false (az II 70 2002) 12 (Zs n F (M n-1)) (Zt n F b)/\zyI (M n-1) (zyN n ((an n (λi=>aB (F i)) λi=>aB (F i))/\ak b (Q (o_ true)) (Q (o_ false)))))):=U
theorem dM(σ)(x):bj.le σ (aB x) (aB x):=⟨⟨rfl,rfl⟩,⟨rfl,rfl⟩,⟨rfl,rfl⟩,⟨rfl,rfl⟩,⟨rfl,rfl⟩,⟨rfl,rfl⟩,⟨rfl,rfl⟩,⟨rfl,rfl⟩,⟨rfl,rfl⟩,⟨rfl,rfl⟩,trivial⟩
def fm(F:Nat->ao):Nat->Bool
 |0=>true
 |k+1=>!decide (jh (F (k+1)) (F k)<0)&&fm F k
theorem EM(n)(F)(c:n<=1000000):ay PP II false (az II 70 2002) 12 (Zs n F (M n-1)) (Zt n F (fm F (n-1))):=
 ay.of (ι:=Int) fU [mP] (aX PP II []) 1000 12 (λi=> -1<=i/\i<n/\fm F (n-1)=fm F i.toNat) (Zs n F) (λ_=>Zt n F (fm F (n-1))) (λi=>(i+1).toNat) (λi=>i-1) (M n-1) A
  Y λi ⟨h1,d,h3⟩=>by
  refine(EL n F _ i _).mpr (aaz (λh=>?_) λh=>?_)
  ·simp only[bl]at h;obtain⟨k,rfl⟩:∃k:Nat,i=(k:Int)+1:=⟨i.toNat-1,O⟩;have a:((k:Int)+1).toNat=k+1:=O;have b:((k:Int)+1-1).toNat=k:=O;rw[a,b];rw[a]at h3;simp only[fm]at h3;refine ZF Y (ZF (ai O O) (ZF zJ (aaz (λh=>?_) λh=>?_)))
   ·rw[h3,h];exact⟨rfl,trivial⟩
   ·refine ZF (ai O O) (aag A (aan A ⟨aaX λ_ _=>dM _ _,⟨O,O,?_⟩,O,rfl⟩))
    grind
  ·simp only[je]at h;have:i.toNat=0:=O;rw[this]at h3;rw[h3];trivial
theorem L7(n)(F)(a:n<=1000000):af PP II 70 [cZ n F,.fn 69 [] []] (c_ 12) (.ret (.bool (fm F (n-1))) (c_ 12)):=by
 refine bQ (T:=[(2002,12,Zs n F (n-1),Zt n F (fm F (n-1)))]) (λ_=>rfl) ((L6 n F _ _).mpr (ZF (ai Y Y) ⟨EM n F a,aag A (aan A ⟨aaX λ_ _=>dM _ _,?_⟩)⟩));exact aaz (λh=>by rw[h]) λh=>by rw[h]
def bS(f:Nat->List AV)(i:Nat):ao:=match jJ (f i)with|some x=>x|none=>⟨0,0,0,0,0,0,0,0,0,0⟩
def du(n:Nat)(f:Nat->List AV):Bool:=(A_ n).all λi=>(jJ (f i)).isSome
theorem jK{n f}(h:du n f=true):a? (λl=>l) (.ae n 10 f) (cZ n (bS f)):=by
 refine⟨rfl,rfl,λi hi=>?_⟩;have:=List.all_eq_true.1 h i (List.mem_range.2 hi);unfold bS;cases hx:jJ (f i)with
 |none=>grind
 |some x=>simp only[hx];rw[gI hx];exact dM _ _
theorem dm(n)(F:Nat->ao):du n (λi=>aB (F i))=true:=List.all_eq_true.2 λ_ _=>rfl
theorem Dc(F):bS (λi=>aB (F i))=F:=rfl
noncomputable def xx:ax PP II:=ax.pure 70
 (λX args b=>match args with
  |[.ae n 10 f,.fn 69 [] []]=>X.ag (z (n<=1000000)&&du n f) (b (.bool (fm (bS f) (n-1))))
  |_=>X.fail)
 λX sem hX args b h=>by
  split at h
  ·obtain⟨a,c⟩:=hX.ag _ _ h;simp only[ba,bl]at a;exact⟨_,c,λ_=>rfl,λ_=>rfl,(L7 _ _ a.1).cS ⟨jK a.2,⟨rfl,trivial,trivial⟩,trivial⟩⟩
  ·exact zR
def tk(F:Nat->ao)(k:Nat):Bool:=bE (F k)&&(match k with|0=>true|k+1=>!decide (jh (F k) (F (k+1))>=0))
def wq(n:Nat)(F:Nat->ao):Bool:=(A_ n).all (tk F)
noncomputable def Zu(n:Nat)(F:Nat->ao)(i:Int):St:={t:=j_ [(0,cZ n F),(5,cZ n F),(6,.int b_ n),(7,.int b_ i)],nt:=37,H:=c_ 12,df:=[]}
noncomputable def Zv(n:Nat)(F:Nat->ao)(b:Bool):GE:=.cond b (.one (.x 0 {t:=j_ [(0,cZ n F)],nt:=37,H:=c_ 12,df:=[]})) (.one (.r {t:=j_ [(2,.bool false)],nt:=37,H:=c_ 12,df:=[]}))
theorem EN(n)(F)(b)(i)(Q):(kr [lA,mP,xx] [] 31 2001 12 (Zu n F) (λ_=>Zv n F b) (λi=>i+1) Q i)=(let a:=(B (aJ b_ (i+1)) (zyI (i+1) (zyN n ((an n (λi=>aB (F i)) λi=>aB (F i))/\zyN n ((an n (λi=>aB (F i)) λi=>aB (F i))/\zyI (M n) Q)))));(ak (z (i<M n)) (B (z (0<=i)&&z (i<M n)) (ak (!bE (F i.toNat)) (ak b False (false=false/\True)) (ak (z (i>0)) (B (aJ b_ (i-1)) (B (z (0<=i-1)&&z (i-1<M n)) (ak (z (jh (F (h_ (i-1))) (F i.toNat)>=0)) (ak b False (false=false/\True)) a))) a))) (ak b (zyN n ((an n (λi=>aB (F i)) λi=>aB (F i))/\True)) False))):=U
theorem L8(n)(F)(b)(Q):(kb [lA,mP,xx] [(2001,12,Zu n F 0,Zv n F b)] 31 [cZ n F] Q)=(ay PP II false (az II 31 2001) 12 (Zu n F 0) (Zv n F b)/\zyN n ((an n (λi=>aB (F i)) λi=>aB (F i))/\zyN n ((an n (λi=>aB (F i)) λi=>aB (F i))/\zyI (M n) (ak b (ak (z (M n<=400)) (B (z (n<=1000000)&&du n λi=>aB (F i)) (Q (o_ (fm (bS λi=>aB (F i)) (n-1))))) (Q (o_ false))) (Q (o_ false)))))):=U
theorem By(F)(k):tk F (k+1)=(bE (F (k+1))&& !decide (jh (F k) (F (k+1))>=0)):=rfl
theorem wu{n k F}(a:k<n)(h:tk F k=false):wq n F=false:=by
 unfold wq
 grind
theorem EO(n)(F)(p:n<=1000000):ay PP II false (az II 31 2001) 12 (Zu n F 0) (Zv n F (wq n F)):=
 ay.of (ι:=Int) fU [lA,mP,xx] (aX PP II []) 1000 12 (λi=>0<=i/\i<=n/\∀k:Nat,k<i->tk F k=true) (Zu n F) (λ_=>Zv n F (wq n F)) (λi=>(n-i).toNat) (λi=>i+1) 0 A
  ⟨O,O,λk q=>O⟩ λi ⟨c,r,h3⟩=>by
  obtain⟨k,rfl⟩:∃k:Nat,i=(k:Int):=⟨i.toNat,O⟩;have b:k<n->tk F k=true->((0:Int)<=(k:Int)+1/\(k:Int)+1<=n/\∀j:Nat,(j:Int)<(k:Int)+1->tk F j=true):=Y;refine(EN n F _ k _).mpr (aaz (λh=>?_) λh=>?_)
  ·simp only[bl]at h;have a:k<n:=by have:(k:Int)<(n:Int):=h;omega
   have f:aJ b_ ((k:Int)+1)=true:=ai O O;rw[u_];refine ZF (by simp;exact a) (aaz (λh=>?_) λh=>?_)
   ·have:tk F k=false:=by unfold tk;simp only[R_]at h;rw[h];rfl
    rw[wu a this];exact⟨rfl,trivial⟩
   ·simp only[P_]at h;refine aaz (λe=>?_) λe=>?_
    ·simp only[bl]at e;obtain⟨m,g⟩:∃m:Nat,k=m+1:=⟨k-1,O⟩;have l:((k:Int)-1).toNat=m:=O;have d:tk F k=(bE (F k)&& !decide (jh (F m) (F k)>=0)):=by subst g;rfl
     rw[l];refine ZF (ai O O) (ZF zJ (aaz (λc=>?_) λc=>?_))
     ·rw[h,c]at d;rw[wu a d];exact⟨rfl,trivial⟩
     ·rw[h,c]at d;rw[f];refine aag A (aan A ⟨aaX λ_ _=>dM _ _,aan A ⟨aaX λ_ _=>dM _ _,aag A ⟨b a d,?_,rfl⟩⟩⟩);omega
    ·simp only[je]at e;have:k=0:=O;subst this;have:tk F 0=true:=by unfold tk;rw[h];rfl
     refine ZF (by rfl) (aan A ⟨aaX λ_ _=>dM _ _,aan A ⟨aaX λ_ _=>dM _ _,aag A Y⟩⟩)
  ·simp only[je]at h;have a :¬ k<n:=by simp_all
   have:wq n F=true:=List.all_eq_true.2 λj o=>h3 j (by have:=List.mem_range.1 o;omega)
   rw[this];exact aan A ⟨aaX λ_ _=>dM _ _,trivial⟩
def bT(n:Nat)(F:Nat->ao):Bool:=wq n F&&z (n<=400)&&fm F (n-1)
theorem Bz(n)(F)(b:n<=1000000):af PP II 31 [cZ n F] (c_ 12) (.ret (.bool (bT n F)) (c_ 12)):=by
 refine bQ (T:=[(2001,12,Zu n F 0,Zv n F (wq n F))]) (λ_=>rfl) ((L8 n F _ _).mpr ⟨EO n F b,aan A ⟨aaX λ_ _=>dM _ _,aan A ⟨aaX λ_ _=>dM _ _,aag A ?_⟩⟩⟩);unfold bT;refine aaz (λh=>aaz (λa=>ZF ?_ ?_) λa=>?_) λh=>?_
 ·rw[dm];simp[b]
 ·simp only[bl]at a;have:n<=400:=by have:(n:Int)<=400:=a;omega
  rw[h,Dc,bK this];rfl
 all_goals grind
noncomputable def nR:ax PP II:=ax.pure 31
 (λX args a=>match args with
  |[.ae n 10 f]=>X.ag (z (n<=1000000)&&du n f) (a (.bool (bT n (bS f))))
  |[.aD]=>a (.bool (bT 0 λ_=>⟨0,0,0,0,0,0,0,0,0,0⟩))
  |_=>X.fail)
 λX sem hX args a h=>by
  split at h
  ·obtain⟨b,c⟩:=hX.ag _ _ h;simp only[ba,bl]at b;exact⟨_,c,λ_=>rfl,λ_=>rfl,(Bz _ _ b.1).cS ⟨jK b.2,trivial⟩⟩
  ·exact⟨_,h,λ_=>rfl,λ_=>rfl,(Bz 0 _ O).cS ⟨rfl,trivial⟩⟩
  ·exact zR
def EP(a:Nat):UInt8:=y_ (a%128+128)
def zN(n:Int):Nat:=if 0<=n then 2*n.toNat else 2*(-n).toNat-1
def qA:Nat->Nat->List UInt8
 |0,_=>[]
 |f+1,a=>match i_ a 128 with
  |true=>[y_ a]
  |false=>EP a::qA f (a/128)
def mQ(n:Int):List UInt8:=qA 10 (zN n)
noncomputable def ZY(s:List UInt8)(a:AV):AH:={n:=17,t:=j_ [(12,.cells [.own 16 s.length 1] (.ty 151)),(13,.cells [a] (.ty 243)),(14,.tL),(15,.loop .ready none (j_ [(4,.ptr 12 0 0 0)]) 33 [21,22] (aP II 123) (aQ II 123) 14),(16,.str s (.ty 5))]}
noncomputable def L9(i:List UInt8×Nat):St:={t:=j_ [(0,.yield 15),(1,.ptr 13 0 0 0)],nt:=18,H:=ZY i.1 (.int .u64 i.2),df:=[]}
noncomputable def Ma(r:List UInt8):GE:=.one (.r {t:=.e,nt:=18,H:=ZY r .any,df:=[]})
theorem Qd(s r)(a)(Q):(kr [] [] 207 3 16 L9 (λ_=>Ma r) (λi=>(i.1++[EP i.2],i.2/128)) Q (s,a))=(let b:=(e_ (M (Z_ (h_ (e_ (M a) 18446744073709551616)) 127)) 18446744073709551616);let d:=(aH (aP II 123) (aP II 123)/\aH (aQ II 123) (aQ II 123)/\aS (H_ (M a) 128) (M (a/128)) (bh (a_ s+1) (a_ (t_ s [EP a])) Q));let c:=(M (e? (h_ (e_ (e_ b 256) 256)) 128));let e:=(aH (aP II 123) (aP II 123)/\aH (aQ II 123) (aQ II 123)/\bh (a_ s+1) (a_ r) True);let f:=(t_ s [y_ (h_ (e_ c 256))]);let g:=(t_ s [y_ (h_ (e_ b 256))]);(ak (!decide (M a<128)) (B (z (a_ s<=a_ s)&&true&&true&&z ((a_ s+1)*1<=140737488355328)&&(z (a_ s=a_ s)&&(z (0<=e_ c 256)&&z (e_ c 256<=255)&&true))) (ak (z (M a<128)) (eX f r e) (eX f (t_ s [EP a]) d))) (B (z (a_ s<=a_ s)&&true&&true&&z ((a_ s+1)*1<=140737488355328)&&(z (a_ s=a_ s)&&(z (0<=e_ b 256)&&z (e_ b 256<=255)&&true))) (ak (z (M a<128)) (eX g r e) (eX g (t_ s [EP a]) d))))):=U
theorem XN(n)(s r:List UInt8)(a:Nat)(Q):(kb [] [(3,16,L9 ([],zN n),Ma r)] 123 [.int b_ n] Q)=(ak (z (n<(-4611686018427387903:Int))) (Q (q? [b? [],d_ b_ 10])) (ak (z (n>4611686018427387903)) (Q (q? [b? [],d_ b_ 10])) (ay PP II false (az II 207 3) 16 (L9 ([],zN n)) (Ma r)/\zyB [] (aH (aP II 123) (aP II 123)/\aH (aQ II 123) (aQ II 123)/\aS (e_ (M (L_ (h_ (e_ (e_ (e_ n 18446744073709551616*2) 18446744073709551616) 18446744073709551616)) (h_ (e_ (e_ (H_ n 9223372036854775808) 18446744073709551616) 18446744073709551616)))) 18446744073709551616) (M (zN n)) (B (z (a_ r=a_ r)) (Q (q? [b? r,d_ b_ 0]))))))):=U
theorem abb{a}(d:a<18446744073709551616):e_ (M (Z_ (h_ (e_ (M a) 18446744073709551616)) 127)) 18446744073709551616=M (a%128):=by
 have b:e_ (M a) 18446744073709551616=(a:Int):=q_ (by show(0:Int)<=(a:Int);omega) (by show(a:Int)<_;omega);rw[b,u_];have c:Z_ a 127=a%128:=Nat.and_two_pow_sub_one_eq_mod a 7;rw[c];exact q_ (by show(0:Int)<=((a%128:Nat):Int);omega) (by show((a%128:Nat):Int)<_;omega)
theorem UF(a):H_ (M a) 128=M (a/128):=by
 grind
theorem ZZ{a}(_:a<18446744073709551616):e_ (M (a%128)) 256=M (a%128):=
 q_ (by show(0:Int)<=((a%128:Nat):Int);omega) (by show((a%128:Nat):Int)<_;omega)
theorem Z0(a):e? (a%128) 128=a%128+128:=by
 have h:a%128<2^7:=O;have b:=Nat.two_pow_add_eq_or_of_lt h 1;have h3:(2^7*1 ||| a%128)=e? (a%128) 128:=Nat.or_comm _ _;rw[h3]at b;omega
theorem Z1(a):e_ (M (a%128+128)) 256=M (a%128+128):=
 q_ (by show(0:Int)<=((a%128+128:Nat):Int);omega) (by show((a%128+128:Nat):Int)<_;omega)
theorem toNat_ofNat(n):h_ (M n)=n:=rfl
theorem Qe{b}(g:b<18446744073709551616):ay PP II false (az II 207 3) 16 (L9 ([],b)) (Ma (qA 10 b)):=
 ay.of (ι:=List UInt8×Nat) fU [] (aX PP II []) 1000 16 (λi=>i.2<18446744073709551616/\∃k,i.2<128^k/\0<k/\i.1.length+k=10/\qA 10 b=i.1++qA k i.2) L9 (λ_=>Ma (qA 10 b)) (λi=>i.2) (λi=>(i.1++[EP i.2],i.2/128)) ([],b) A
  ⟨g,10,by show b<_;omega,O,rfl,rfl⟩ λi hi=>by
  obtain⟨s,a⟩:=i;obtain⟨j,k,f,o,hl,l⟩:=hi;change a<_ at j;change a<128^k at f;change s.length+k=10 at hl;change qA 10 b=s++qA k a at l;obtain⟨k,rfl⟩:∃m,k=m+1:=⟨k-1,O⟩;have p:(M a<(128:Int))↔a<128:=by show((a:Int)<128)↔_;omega
  refine(Qd s (qA 10 b) a _).mpr ?_;simp only[abb j,ZZ j,toNat_ofNat,Z0,Z1,p];have v:(0:Int)<=M (a%128+128):=by show(0:Int)<=((a%128+128:Nat):Int);omega
  have w:M (a%128+128)<=(255:Int):=by show((a%128+128:Nat):Int)<=_;omega
  have x:(0:Int)<=M (a%128):=by show(0:Int)<=((a%128:Nat):Int);omega
  have y:M (a%128)<=(255:Int):=by show((a%128:Nat):Int)<=_;omega
  refine aaz (λh=>ZF ?_ (aaz (λc=>?_) λc=>?_)) λh=>ZF ?_ (aaz (λc=>?_) λc=>?_)
  all_goals simp only[R_,P_,bl,je]at*
  grind
  ·exact absurd c h
  ·have d:qA 10 b=(s++[EP a])++qA k (a/128):=by
    have n:i_ a 128=false:=by rw[Bool.eq_false_iff];intro e;rw[S_]at e;exact h e
    rw[l];simp[qA,n]
   have q:a/128<128^k:=by rw[s_ O];rw[k_]at f;exact f
   have r:0<k:=by
    cases k with
    |zero=>simp at f;omega
    |succ k=>omega
   have t:a/128<18446744073709551616:=O;have C:(s++[EP a]).length+k=10:=by simp;omega
   have u:a/128<a:=O
   repeat' (first|exact trivial|apply aan|apply aag|with_reducible rfl|exact A|exact UF a|(simp;done)|exact t|exact u|exact Y|apply w_)
  grind
  ·have n:i_ a 128=true:=by rw[S_];exact h
   have d:qA 10 b=s++[y_ a]:=by rw[l];simp[qA,n]
   have:a%128=a:=l_ h;rw[d,this]
   repeat' (first|exact trivial|apply aan|apply aag|with_reducible rfl|exact A|(simp;done)|apply w_)
  ·exact absurd h c
theorem zig{n:Int}(g : -4611686018427387903<=n)(c:n<=4611686018427387903):
  e_ (M (L_ (h_ (e_ (e_ (e_ n 18446744073709551616*2) 18446744073709551616) 18446744073709551616)) (h_ (e_ (e_ (H_ n 9223372036854775808) 18446744073709551616) 18446744073709551616)))) 18446744073709551616=M (zN n):=by
 have key:∀m:Nat,m<18446744073709551616->e_ (M m) 18446744073709551616=M m:=λm i=>q_ (by show(0:Int)<=(m:Int);omega) (by show(m:Int)<_;omega)
 have f:H_ n 9223372036854775808=if 0<=n then 0 else -1:=by rw[Int.fdiv_eq_ediv_of_nonneg _ O];split<;>omega
 rw[f];unfold zN;by_cases b:0<=n
 ·rw[if_pos b,if_pos b];have d:h_ (e_ (e_ (e_ n 18446744073709551616*2) 18446744073709551616) 18446744073709551616)=2*n.toNat:=by
   show((n%18446744073709551616*2)%18446744073709551616%18446744073709551616).toNat=_;omega
  have e:h_ (e_ (e_ 0 18446744073709551616) 18446744073709551616)=0:=rfl;rw[d,e,show L_ (2*n.toNat) 0=2*n.toNat from Nat.xor_zero _]
  grind
 ·rw[if_neg b,if_neg b];have d:h_ (e_ (e_ (e_ n 18446744073709551616*2) 18446744073709551616) 18446744073709551616)=18446744073709551616-2*(-n).toNat:=by
   show((n%18446744073709551616*2)%18446744073709551616%18446744073709551616).toNat=_;omega
  have e:h_ (e_ (e_ (-1) 18446744073709551616) 18446744073709551616)=2^64-1:=rfl;have j:L_ (18446744073709551616-2*(-n).toNat) (2^64-1)=2*(-n).toNat-1:=by
   have:∀a:Nat,a<2^64->L_ a (2^64-1)=2^64-1-a:=λa ha=>by
    have h:=BitVec.toNat_not (x:=BitVec.ofNat 64 a);have c:(~~~ BitVec.ofNat 64 a)=BitVec.ofNat 64 a^^^BitVec.allOnes 64:=by rw[BitVec.xor_allOnes]
    rw[c,BitVec.toNat_xor,BitVec.toNat_allOnes,BitVec.toNat_ofNat,l_ ha]at h;exact h
   rw[this _ O];omega
  grind
theorem Z2{n}(a : -4611686018427387903<=n)(b:n<=4611686018427387903):zN n<18446744073709551616:=by
 unfold zN;split<;>omega
theorem Hu{n}(a : -4611686018427387903<=n)(b:n<=4611686018427387903):af PP II 123 [.int b_ n] (c_ 12) (.ret (.bM [.str (mQ n),.int b_ 0]) (c_ 12)):=by
 refine bQ (ks:=[]) (T:=[(3,16,L9 ([],zN n),Ma (mQ n))]) (λ_=>⟨rfl,⟨rfl,rfl⟩,trivial⟩) ((XN n [] (mQ n) 0 _).mpr (aaz (λh=>?_) λ_=>aaz (λh=>?_) λ_=>?_))
 grind
 grind
 ·repeat' (first|exact Qe (Z2 a b)|exact trivial|apply aan|apply aag|exact zig a b|with_reducible rfl|exact A|exact ZF zA A|apply w_)
noncomputable def Qf:ax PP II:=ax.pure 123
 (λX args b=>match args with
  |[.int b_ n]=>X.ag (z (-4611686018427387903<=n)&&z (n<=4611686018427387903)) (b (.bM [.str (mQ n),.int b_ 0]))
  |_=>X.fail)
 λX sem hX args b h=>by
  split at h
  ·obtain⟨a,c⟩:=hX.ag _ _ h;simp only[ba,bl]at a;exact⟨_,c,λ_=>rfl,λ_=>rfl,Hu a.1 a.2⟩
  ·exact zR
noncomputable def bt:ax PP II where
 f:=166
 spec X args H b _:=match args with
  |[a]=>b a H
  |_=>X.fail
 ok X sem hX args H b kp h:=by
  split at h
  ·rename_i a;refine⟨.ret a H,h,λc ρ w vs hG d g=> .inr ?_⟩;simp only[aV]at d;obtain⟨u,us,rfl,i,rfl⟩:=d;refine⟨u,w,?_,ρ,Ext.refl ρ,g,i⟩;rw[run_callFunc_extern (e:=Extern.AbiNoEscape.same) Go.Proofs.Tryz.func166 U U U U];rfl
  ·exact zR
def oe(l:List Int)(i:Nat):Int:=l.getD i 0
def pQ(l:List Int):AV:=.ae l.length 1 (λi=>[.int b_ (oe l i)])
def aA(l:List Int):List UInt8:=l.flatMap mQ
def qL(l:List Int)(i:Nat):List UInt8:=aA (l.take i)
def Kn(l:List Int):Bool:=l.all λn=>z (-4611686018427387903<=n)&&z (n<=4611686018427387903)
noncomputable def t78(l:List Int)(i:Int):Tr AV:=j_ [(0,pQ l),(6,pQ l),(7,.int b_ l.length),(8,.int b_ i),(3,.ptr 12 0 0 0)]
noncomputable def h78(s:List UInt8):AH:={n:=14,t:=j_ [(12,.cells [.ptr 12 0 0 0,.own 13 s.length 1] (.ty 153)),(13,.str s (.ty 5))]}
noncomputable def r78(l:List Int)(i:Int)(s:List UInt8):St:={t:=t78 l i,nt:=20,H:=h78 s,df:=[]}
noncomputable def XO(l:List Int)(i:Bool×Int×List UInt8):St:=match i.1 with
 |false=>{t:=t78 l 0,nt:=20,H:={n:=13,t:=j_ [(12,.cells [.nilPtr,.aD] (.ty 153))]},df:=[]}
 |true=>r78 l i.2.1 i.2.2
noncomputable def XP(l:List Int)(n:Int)(r:List UInt8):GE:=.one (.x 0 (r78 l n r))
theorem HY(l)(n)(r)(Q):(kr [bt,Qf] [] 78 3001 13 (XO l) (λ_=>XP l n r) (λi=>(true,i.2.1+1,i.2.2++mQ (oe l i.2.1.toNat))) Q (false,0,[]))=(let a:=(an (a_ l) (λi=>[d_ b_ (oe l i)]) λi=>[d_ b_ (oe l i)]);(ak (z (0<M (a_ l))) (B (z (0<M (a_ l))) (B (z ((-4611686018427387903:Int)<=oe l 0)&&z (oe l 0<=4611686018427387903)) (B (z ((0+a_ (mQ (oe l 0)))*1<=140737488355328)&&true) (B (aJ b_ 1) (zyB (mQ (oe l 0)) (zyN (a_ (mQ (oe l 0))) (zyI (M (a_ l)) (zyN (a_ l) (a/\zyN (a_ l) (a/\Q)))))))))) (eX r [] False))):=U
theorem HZ(l)(n)(r)(i)(s)(Q):(kr [bt,Qf] [] 78 3001 13 (XO l) (λ_=>XP l n r) (λi=>(true,i.2.1+1,i.2.2++mQ (oe l i.2.1.toNat))) Q (true,i,s))=(let a:=(an (a_ l) (λi=>[d_ b_ (oe l i)]) λi=>[d_ b_ (oe l i)]);(ak (z (i<M (a_ l))) (B (z (0<=i)&&z (i<M (a_ l))) (B (z ((-4611686018427387903:Int)<=oe l i.toNat)&&z (oe l i.toNat<=4611686018427387903)) (B (z (a_ s<=a_ s)&&true&&true&&z ((a_ s+a_ (mQ (oe l i.toNat)))*1<=140737488355328)&&(z (a_ s=a_ s)&&true)) (B (aJ b_ (i+1)) (zyB (t_ s (mQ (oe l i.toNat))) (bh (a_ s+a_ (mQ (oe l i.toNat))) (a_ (t_ s (mQ (oe l i.toNat)))) (zyI (M (a_ l)) (zyN (a_ l) (a/\zyI (i+1) (zyN (a_ l) (a/\Q))))))))))) (eX s r (bh (a_ s) (a_ r) (zyI (M (a_ l)) (zyN (a_ l) (a/\aS i n (zyN (a_ l) (a/\True))))))))):=U
theorem UG(l)(n)(r)(Q):(kb [bt,Qf] [(3001,13,XO l (false,0,[]),XP l n r)] 78 [pQ l] Q)=(let a:=(an (a_ l) (λi=>[d_ b_ (oe l i)]) λi=>[d_ b_ (oe l i)]);(ay PP II false (az II 78 3001) 13 (XO l (false,0,[])) (XP l n r)/\zyI (M (a_ l)) (zyN (a_ l) (a/\zyN (a_ l) (a/\B (z (0<a_ r)) (B (z (a_ r=a_ r)&&true) (B (z (M (a_ r)=M (a_ r))) (B (z (h_ (M (a_ r))=a_ r)&&true&&true&&z (0<M (a_ r))&&z (M (a_ r)<=9223372036854775807)&&true) (Q (b? r)))))))))):=U
theorem sX(σ)(l)(i):bj.le σ [.int b_ (oe l i)] [.int b_ (oe l i)]:=⟨⟨rfl,rfl⟩,trivial⟩
theorem vw{l i}(h:i<l.length):qL l i++mQ (oe l i)=qL l (i+1):=by
 unfold qL aA oe;rw[List.take_add_one,oa h,List.flatMap_append]
 grind
theorem EQ:∀(f a),(qA f a).length<=f
 |0,_=>by simp[qA]
 |f+1,a=>by
  unfold qA;cases i_ a 128 with
  |true=>simp
  |false=>have:=EQ f (a/128);simp;omega
theorem ue(n):(mQ n).length<=10:=EQ _ _
theorem Qg(n):0<(mQ n).length:=by
 unfold mQ qA
 grind
theorem uf(l):∀i,(qL l i).length<=10*i
 |0=>by simp[qL,aA]
 |i+1=>by
  by_cases h:i<l.length
  ·rw[<-vw h,Q_];have:=uf l i;have:=ue (oe l i);omega
  ·have a:qL l (i+1)=qL l i:=by unfold qL;rw[K_ O,K_ O]
   rw[a];have:=uf l i;omega
theorem Qh{l}(h:Kn l=true)(i): -4611686018427387903<=oe l i/\oe l i<=4611686018427387903:=by
 unfold oe;by_cases hi:i<l.length
 ·rw[G_,oa hi];have:=List.all_eq_true.1 h l[i] (List.getElem_mem hi);simpa using this
 grind
theorem Mb{l}(hl:Kn l=true)(w:0<l.length)(x:l.length<=1000000):ay PP II false (az II 78 3001) 13 (XO l (false,0,[])) (XP l l.length (aA l)):=
 ay.of (ι:=Bool×Int×List UInt8) fU [bt,Qf] (aX PP II []) 1000 13 (λi=>(i.1=false->i.2.1=0)/\0<=i.2.1/\i.2.1<=l.length/\i.2.2=qL l i.2.1.toNat) (XO l) (λ_=>XP l l.length (aA l)) (λi=>(l.length-i.2.1).toNat) (λi=>(true,i.2.1+1,i.2.2++mQ (oe l i.2.1.toNat))) (false,0,[]) A
  ⟨λ_=>rfl,Int.le_refl 0,zA,rfl⟩ λi hi=>by
  obtain⟨b,i,s⟩:=i;obtain⟨r,f,hi,g⟩:=hi;change 0<=i at f;change i<=(l.length:Int)at hi;change s=qL l i.toNat at g;have t:qL l l.length=aA l:=by unfold qL;rw[U_]
  have e:i<(l.length:Int)->(λi:Bool×Int×List UInt8=>(i.1=false->i.2.1=0)/\0<=i.2.1/\i.2.1<=l.length/\i.2.2=qL l i.2.1.toNat) (true,i+1,s++mQ (oe l i.toNat))/\(l.length-(i+1)).toNat<(l.length-i).toNat:=λj=>by refine⟨⟨(λh=>zE),Y,zI,?_⟩,O⟩;show s++mQ (oe l i.toNat)=qL l (i+1).toNat;have:(i+1).toNat=i.toNat+1:=O;rw[this,g,vw O]
  have k:=Qh hl i.toNat;have y:=ue (oe l i.toNat);have C:=uf l i.toNat;cases b with
  |false=>
   have m:i=0:=r A;subst m;have n:s=[]:=g;subst n;have o:=e O;refine(HY l l.length (aA l) _).mpr (aaz (λh=>?_) λh=>?_)
   ·have d:z ((0+(mQ (oe l 0)).length)*1<=140737488355328)=true:=by rw[bl];have:=ue (oe l 0);omega
    have a:(z (-4611686018427387903<=oe l 0)&&z (oe l 0<=4611686018427387903))=true:=by simpa using k
    repeat' (with_reducible first|exact trivial|rfl|exact aaX λ_ _=>sX _ _ _|refine aan ?_ ?_|refine aag ?_ ?_|refine aaY ?_ ?_|refine ZF ?_ ?_|refine w_ ?_ ?_)
    ·exact h
    ·exact a
    ·rw[d];rfl
    ·rfl
    all_goals grind
   grind
  |true=>
   have q:s.length<=10000000:=by rw[g];omega
   refine(HZ l l.length (aA l) i s _).mpr (aaz (λh=>?_) λh=>?_)
   ·have j:i<(l.length:Int):=by simp only[bl]at h;exact h
    have o:=e j;have u:aJ b_ (i+1)=true:=ai O O;have a:(z (-4611686018427387903<=oe l i.toNat)&&z (oe l i.toNat<=4611686018427387903))=true:=by simp[k]
    have c:(z (0<=i)&&z (i<M l.length))=true:=by rw[h];simp[f]
    have d:z ((s.length+(mQ (oe l i.toNat)).length)*1<=140737488355328)=true:=by rw[bl];omega
    repeat' (with_reducible first|exact trivial|rfl|exact aaX λ_ _=>sX _ _ _|refine aan ?_ ?_|refine aag ?_ ?_|refine aaY ?_ ?_|refine ZF ?_ ?_|refine w_ ?_ ?_)
    ·exact c
    ·exact a
    ·rw[d];simp
    ·exact u
    ·simp
    all_goals grind
   ·have p:i=(l.length:Int):=by
     simp only[je]at h;have :¬ i<(l.length:Int):=h;omega
    have v:s=aA l:=by rw[g,p,u_,t]
    repeat' (with_reducible first|exact trivial|rfl|exact aaX λ_ _=>sX _ _ _|refine aan ?_ ?_|refine aag ?_ ?_|refine aaY ?_ ?_|refine ZF ?_ ?_|refine w_ ?_ ?_)
    all_goals grind
theorem UH{l}(hl:Kn l=true)(b:0<l.length)(c:l.length<=1000000):af PP II 78 [pQ l] (c_ 12) (.ret (.str (aA l)) (c_ 12)):=by
 have e:qL l l.length=aA l:=by unfold qL;rw[U_]
 have a:0<(qL l l.length).length:=by obtain⟨n,d⟩:∃n,l.length=n+1:=⟨l.length-1,O⟩;rw[d,<-vw O,Q_];have:=Qg (oe l n);omega
 have f:=uf l l.length;rw[e]at a f;refine bQ (ks:=[bt,Qf]) (T:=[(3001,13,XO l (false,0,[]),XP l l.length (aA l))]) (λ_=>rfl) ((UG l l.length (aA l) _).mpr ?_)
 repeat' (with_reducible first|exact trivial|rfl|exact aaX λ_ _=>sX _ _ _|refine aan ?_ ?_|refine aag ?_ ?_|refine aaY ?_ ?_|refine ZF ?_ ?_|refine w_ ?_ ?_)
 ·exact Mb hl b c
 ·simpa using a
 ·simp
 ·simp
 ·simp;omega
def bN(n:Nat)(f:Nat->List AV):Bool:=(A_ n).all λi=>match f i with|[.int b_ _]=>true|_=>false
def a8(f:Nat->List AV)(i:Nat):Int:=match f i with|[.int b_ n]=>n|_=>0
def fy(n:Nat)(f:Nat->List AV):List Int:=(A_ n).map (a8 f)
theorem Mc{n f}(h:bN n f=true):a? (λl=>l) (.ae n 1 f) (pQ (fy n f)):=by
 have hl:(fy n f).length=n:=by simp[fy]
 refine⟨hl.symm,rfl,λi hi=>?_⟩;have:=List.all_eq_true.1 h i (List.mem_range.2 hi);have e:oe (fy n f) i=a8 f i:=by unfold oe fy;rw[G_,List.getElem?_map,List.getElem?_range hi];rfl
 show bj.le _ (f i) [.int b_ (oe (fy n f) i)];rw[e];unfold a8;split at this
 ·rename_i x hx;rw[hx];exact⟨⟨rfl,rfl⟩,trivial⟩
 ·cases this
noncomputable def yB:ax PP II:=ax.pure 78
 (λX args a=>match args with
  |[.ae n 1 f]=>X.ag (bN n f&&Kn (fy n f)&&i_ 0 n&&E_ n 1000000) (a (.str (aA (fy n f))))
  |_=>X.fail)
 λX sem hX args a h=>by
  split at h
  ·rename_i n f;obtain⟨b,c⟩:=hX.ag _ _ h;simp only[ba]at b;obtain⟨⟨⟨a1,a2⟩,d⟩,a4⟩:=b;have hl:(fy n f).length=n:=by simp[fy]
   have e:0<n:=by rwa[S_]at d
   have g:=fT a4;exact⟨_,c,λ_=>rfl,λ_=>rfl,(UH a2 O O).cS ⟨Mc a1,trivial⟩⟩
  ·exact zR
def w8:Nat->Nat->List Int
 |0,_=>[]
 |k+1,v=>((v%10000:Nat):Int)::w8 k (v/10000)
def au(v:Nat):Nat:=if h:v=0 then 0 else au (v/10000)+1
termination_by v
decreasing_by omega
def yC:List Int->Nat
 |[]=>0
 |x::xs=>x.toNat+10000*yC xs
theorem ER:∀(k v:Nat),(w8 k v).length=k
 |0,_=>rfl
 |k+1,v=>by simp[w8,ER k]
theorem hZ:au 0=0:=by rw[au];simp
theorem yD{v:Nat}(h:v≠0):au v=au (v/10000)+1:=by rw[au];simp[h]
theorem BA:∀(k v:Nat),yC (w8 k v)=v%10000^k
 |0,v=>by simp[w8,yC,j?]
 |k+1,v=>by simp only[w8,yC,BA k,u_];rw[k_,x_ (10000^k),k?]
theorem fw:∀(k v:Nat),v<10000^k->au v<=k
 |0,v,h=>by
  have:v=0:=by simpa using h
  rw[this,hZ];exact l? _
 |k+1,v,h=>by
  by_cases a:v=0
  ·rw[a,hZ];exact l? _
  ·rw[yD a];have:=fw k (v/10000) (by rw[s_ O];rwa[k_]at h);omega
theorem iX(v:Nat):v<10000^au v:=by
 induction v using Nat.strongRecOn with
 |_ v b=>
  by_cases a:v=0
  ·rw[a,hZ];decide
  ·rw[yD a,k_];have:=b (v/10000) O;omega
theorem dc{k v:Nat}:au v<=k↔v<10000^k :=
 ⟨λh=>Nat.lt_of_lt_of_le (iX v) (Nat.pow_le_pow_right O h),fw k v⟩
theorem oJ{a b:Nat}(h:a<=b):au a<=au b:=fw _ _ (C_ h (iX b))
def bH(v i:Nat):Nat:=v/10000^i%10000
theorem BB(v:Nat):bH v 0=v%10000:=by simp[bH]
theorem BC(v i:Nat):bH v (i+1)=bH (v/10000) i:=by
 unfold bH;rw[k_,x_,<-r_]
theorem l7(v i:Nat):bH v i<10000:=o? _ O
theorem mR{v i:Nat}(h:au v<=i):bH v i=0:=by
 unfold bH;rw[V_ (dc.1 h)]
theorem yE:∀(k v i:Nat),i<k->(w8 k v)[i]? =Option.some ((bH v i:Nat):Int)
 |0,_,_,h=>absurd h (qx _)
 |k+1,v,0,_=>by simp[w8,BB]
 |k+1,v,i+1,h=>by simp only[w8,List.getElem?_cons_succ];rw[yE k _ i O,BC]
def jL(d:Nat->Int):Nat->Int
 |0=>0
 |i+1=>jL d i+d i*10000^i
theorem yF(i:Nat):(0:Int)<10000^i:=Int.pow_pos O
def fX(d:Nat->Int)(i:Nat):Int:=jL d i/10000^i
theorem carry_zero(d:Nat->Int):fX d 0=0:=by simp[fX,jL]
theorem BD(d:Nat->Int)(i:Nat):d i+fX d i=jL d (i+1)/10000^i:=by
 unfold fX;simp only[jL];rw[Int.add_mul_ediv_right _ _ (f? (yF i)),Int.add_comm]
theorem sL{a b c:Int}(h:0<b):a/b/c=a/(b*c):=by rw[Int.ediv_ediv,if_neg O,Int.sub_zero]
theorem carry_succ(d:Nat->Int)(i:Nat):fX d (i+1)=(d i+fX d i)/10000:=by
 rw[BD];unfold fX;rw[g?,sL (yF i)]
theorem yG{d:Nat->Int}{n:Nat}(h:∀j,n<=j->d j=0):∀k,jL d (n+k)=jL d n
 |0=>rfl
 |k+1=>by rw[<-c?,jL,h _ O,h?,Int.add_zero,yG h k]
theorem Md{d:Nat->Int}(i k:Nat):jL d (i+k)%10000^i=jL d i%10000^i:=by
 induction k with
 |zero=>rfl
 |succ k a=>rw[<-c?,jL,Int.pow_add,M_ (10000^i),<-B_,Int.add_mul_emod_self_right,a]
theorem Qi{d:Nat->Int}{v i j:Nat}(e:i<j)(b:jL d j=v):(d i+fX d i)%10000=((bH v i:Nat):Int):=by
 rw[BD];have c:jL d j%10000^(i+1)=jL d (i+1)%10000^(i+1):=by
  have:=Md (d:=d) (i+1) (j-(i+1))
  rwa[show i+1+(j-(i+1))=j by omega]at this
 have key:∀x:Int,(x%10000^(i+1))/10000^i=(x/10000^i)%10000:=λx=>by rw[i?,i?,g?];have a:=yF i;rw[<-sL a,B_,Int.sub_eq_add_neg,<-Int.mul_neg,Int.add_mul_ediv_left _ _ (f? a)];omega
 rw[<-key,<-c,key,b];unfold bH;simp only[Int.natCast_emod,W_,F_];rfl
def eT(a b:Nat):Int:=if a<b then -1 else if b<a then 1 else 0
theorem gS(v i:Nat):v/10000^i=bH v i+10000*(v/10000^(i+1)):=by
 unfold bH;rw[k_,<-r_];omega
theorem UI{a b:Nat}(h:au a≠au b):eT a b=if au a<au b then -1 else 1:=by
 unfold eT;have c:au a<au b->a<b:=λh=>by
  rcases N_ a b with k|k
  ·exact k
  ·exact absurd (oJ k) O
 have d:au b<au a->b<a:=λh=>by
  rcases N_ b a with k|k
  ·exact k
  ·exact absurd (oJ k) O
 by_cases k:au a<au b
 ·rw[if_pos k,if_pos (c k)]
 ·have:=d O;rw[if_neg k,if_neg O,if_pos this]
theorem Qj{a b i:Nat}(h:a/10000^(i+1)=b/10000^(i+1))(d:bH a i≠bH b i):eT a b=if bH a i<bH b i then -1 else 1:=by
 have ha:=gS a i;have e:=gS b i;have mono:∀{x y:Nat},x/10000^i<y/10000^i->x<y:=λ{x y} h=>by
  rcases N_ x y with k|k
  ·exact k
  ·exact absurd (Nat.div_le_div_right (c:=10000^i) k) O
 unfold eT;by_cases k:bH a i<bH b i
 ·rw[if_pos k,if_pos (mono O)]
 ·have:b<a:=mono O;rw[if_neg k,if_neg O,if_pos this]
theorem Qk{a b i:Nat}(h:a/10000^(i+1)=b/10000^(i+1))(c:bH a i=bH b i):a/10000^i=b/10000^i:=by
 rw[gS a i,gS b i,h,c]
def yH(a m i:Nat):Nat:=a/10000^i%m
theorem Me{a m:Nat}(b:0<m)(i:Nat):(bH a i+10000*yH a m (i+1))/m=bH (a/m) i/\(bH a i+10000*yH a m (i+1))%m=yH a m i/\bH a i+10000*yH a m (i+1)<10000*m:=by
 unfold yH;have d:=gS a i;have hx:=Nat.div_add_mod (a/10000^(i+1)) m;have e:=o? (a/10000^(i+1)) b;generalize hX:a/10000^(i+1)=x at*;generalize hQ:x/m=q at*;generalize f:x%m=r at*;have hl:=l7 a i;have c:a/10000^i=(bH a i+10000*r)+m*(10000*q):=by rw[d,<-hx,Nat.mul_add,<-d?,<-d?,x_ 10000 m];omega
 have h3:bH a i+10000*r<10000*m:=by have:r+1<=m:=e;have:=z_ 10000 this;omega
 refine⟨?_,?_,h3⟩
 ·have h4:bH (a/m) i=a/10000^i/m%10000:=by
   unfold bH;rw[r_,r_,x_]
  rw[h4,c,Nat.add_mul_div_left _ _ b,J_,l_];rw[s_ b];exact h3
 ·rw[c,J_]
def fK(N V:Nat):Nat:=if V<10000^N then N else N+1
structure mT (N f:Nat) (e W a:Nat->Int):Prop where
 n:N<=100000
 l:f<=N+1
 c0:a 0=0
 XQ:∀i,i<N->i<f
 XR:∀i,i<=f->a i≠0->i<f
 stop:∀i,i<=f->¬ i<N->a i=0->i=f
 db:∀i,i<f-> -10000<=e i/\e i<=200000000
 b:∀i,i<f-> -10000<=e i+a i/\e i+a i<=200000000
 w:∀i,i<f->(e i+a i)%10000=W i
 c:∀i,i<f->(e i+a i)/10000=a (i+1)
theorem mT.of{N V:Nat}{D:Nat->Int}(v:N<=100000)(y:∀j,N<=j->D j=0)(C:jL D N=(V:Int))(d:V<10000^(N+1))(f:∀i,-10000<=D i/\D i<=199990000)
  (q:∀i,-10000<=D i+fX D i/\fX D i<=10000):mT N (fK N V) D (λi=>M (bH V i)) (fX D):=by
 have s:∀j,N<=j->jL D j=V:=λj t=>by obtain⟨k,rfl⟩:∃k,j=N+k:=⟨j-N,O⟩;rw[yG y,C]
 have u:∀j,N<=j->(fX D j=0↔V<10000^j):=λj t=>by
  unfold fX;rw[s j t];have e:((V:Int)/10000^j)=((V/10000^j:Nat):Int):=by simp only[W_,F_];rfl
  rw[e];have:=Nat.pow_pos (a:=10000) (n:=j) O;constructor
  ·intro h;have:V/10000^j=0:=O;rcases Nat.div_eq_zero_iff.1 this with h|h
   ·omega
   ·exact h
  ·intro h;rw[V_ h];rfl
 have m:N<=fK N V/\fK N V<=N+1:=by unfold fK;split<;>omega
 refine {n:=v,l:=m.2,c0:=carry_zero D,XQ:=λi hi=>O,XR:=λi hi o=>?_,stop:=λi hi E h=>?_,db:=λi _=>⟨(f i).1,by have:=(f i).2;omega⟩,b:=λi _=>⟨(q i).1,by have:=(f i).2;have:=(q i).2;omega⟩,w:=λi hi=>?_,c:=λi _=>(carry_succ D i).symm}
 ·refine Nat.lt_of_le_of_ne hi λe=>o ?_
  subst e;rw[u _ m.1];unfold fK;split
  ·assumption
  ·exact d
 ·have F:=(u i O).1 h;by_cases e:i=N
  ·subst e;unfold fK;rw[if_pos F]
  ·omega
 ·exact Qi hi (s _ m.1)
theorem oK{x w c:Int}(d : -10000<=x)(a:x%10000=w)(b:x/10000=c):(x<0->x+10000=w/\ -1=c)/\(x>=10000->m_ x 10000=c/\p_ x 10000=w)/\(¬ x<0->¬ x>=10000->x=w/\0=c):=by
 refine⟨λh=>?_,λh=>?_,λh e=>?_⟩
 ·omega
 ·rw[Int.tdiv_eq_ediv_of_nonneg O,Int.tmod_eq_emod_of_nonneg O];exact⟨b,a⟩
 ·omega
theorem mu(a:Nat):∀i,jL (λi=>M (bH a i)) i=((a%10000^i:Nat):Int)
 |0=>by simp[jL,j?]
 |i+1=>by
  rw[jL,mu a i,k_,k?];have:M (bH a i)*10000^i=((10000^i*bH a i:Nat):Int):=by rw[Y_,F_,M_];rfl
  rw[this];unfold bH;omega
theorem ES(d e:Nat->Int):∀i,jL (λi=>d i+e i) i=jL d i+jL e i
 |0=>rfl
 |i+1=>by simp only[jL,ES d e i,m?];omega
theorem ET(d e:Nat->Int):∀i,jL (λi=>d i-e i) i=jL d i-jL e i
 |0=>rfl
 |i+1=>by simp only[jL,ET d e i,Int.sub_mul];omega
theorem EU(d:Nat->Int)(n:Int):∀i,jL (λi=>d i*n) i=jL d i*n
 |0=>by simp[jL]
 |i+1=>by simp only[jL,EU d n i,m?];rw[B_,B_,M_ n]
theorem ug(a i:Nat):0<=M (bH a i)/\M (bH a i)<=9999:=by
 have:=l7 a i;constructor
 ·exact T_ _
 ·show((bH a i:Nat):Int)<=9999;omega
theorem nS{D:Nat->Int}{lo hi:Int}(a:lo<=0/\0<=hi)(h:∀i c,lo<=c->c<=hi->lo<=(D i+c)/10000/\(D i+c)/10000<=hi):∀i,lo<=fX D i/\fX D i<=hi
 |0=>by rw[carry_zero];exact a
 |i+1=>by rw[carry_succ];have:=nS a h i;exact h i _ this.1 this.2
theorem Mf{a b N:Nat}(ha:au a<=N)(d:au b<=N)(e:N<=100000):mT N (fK N (a+b)) (λi=>M (bH a i)+M (bH b i)) (λi=>M (bH (a+b) i)) (fX λi=>M (bH a i)+M (bH b i)):=by
 have f:=dc.1 ha;have g:=dc.1 d;have h:=nS (D:=λi=>M (bH a i)+M (bH b i)) (lo:=0) (hi:=1) O (λi c _ _=>by have:=ug a i;have:=ug b i;show 0<=(M (bH a i)+M (bH b i)+c)/10000/\(M (bH a i)+M (bH b i)+c)/10000<=1;omega)
 refine mT.of e (λj k=>?_) ?_ ?_ (λi=>?_) (λi=>?_)
 ·rw[mR O,mR O];rfl
 ·rw[ES,mu,mu,l_ f,l_ g];exact(Int.natCast_add _ _).symm
 ·rw[k_];omega
 ·have:=ug a i;have:=ug b i;constructor<;>omega
 ·have:=ug a i;have:=ug b i;have:=h i;constructor<;>omega
theorem H5{a b N:Nat}(d:b<=a)(ha:au a<=N)(e:N<=100000):mT N (fK N (a-b)) (λi=>M (bH a i)-M (bH b i)) (λi=>M (bH (a-b) i)) (fX λi=>M (bH a i)-M (bH b i)):=by
 have f:=dc.1 ha;have g:=nS (D:=λi=>M (bH a i)-M (bH b i)) (lo := -1) (hi:=0) O (λi c _ _=>by have:=ug a i;have:=ug b i;show -1<=(M (bH a i)-M (bH b i)+c)/10000/\(M (bH a i)-M (bH b i)+c)/10000<=0;omega)
 have h:=oJ d;refine mT.of e (λj k=>?_) ?_ ?_ (λi=>?_) (λi=>?_)
 ·rw[mR O,mR O];rfl
 ·rw[ET,mu,mu,l_ f,l_ O];omega
 ·rw[k_];omega
 ·have:=ug a i;have:=ug b i;constructor<;>omega
 ·have:=ug a i;have:=ug b i;have:=g i;constructor<;>omega
theorem UJ{a n N:Nat}(h:n<10000)(ha:au a<=N)(e:N<=100000):mT N (fK N (a*n)) (λi=>M (bH a i)*(n:Int)) (λi=>M (bH (a*n) i)) (fX λi=>M (bH a i)*(n:Int)):=by
 have f:=dc.1 ha;have b:∀i,0<=M (bH a i)*(n:Int)/\M (bH a i)*(n:Int)<=99980001:=λi=>by have d:=ug a i;refine⟨Int.mul_nonneg d.1 O,?_⟩;have:=Int.mul_le_mul d.2 (O:(n:Int)<=9999) O O;omega
 have g:=nS (D:=λi=>M (bH a i)*(n:Int)) (lo:=0) (hi:=9999) O (λi c _ _=>by have:=b i;show 0<=(M (bH a i)*(n:Int)+c)/10000/\(M (bH a i)*(n:Int)+c)/10000<=9999;omega)
 refine mT.of e (λj k=>?_) ?_ ?_ (λi=>?_) (λi=>?_)
 ·rw[mR O];exact h? _
 ·rw[EU,mu,l_ f];exact(Y_ _ _).symm
 ·rw[k_];exact C_ (z_ a (O:n<=9999)) O
 ·have:=b i;constructor<;>omega
 ·have:=b i;have:=g i;constructor<;>omega
theorem XS{a b N:Nat}(ha:au a<=N)(c:au b<=N):a+b<10000^(N+1):=by
 have d:=dc.1 ha;have e:=dc.1 c;rw[k_];omega
theorem UK{a b N:Nat}(ha:au a<=N):a-b<10000^(N+1):=by
 have c:=dc.1 ha;rw[k_];omega
theorem Dd{a n N:Nat}(b:n<10000)(ha:au a<=N):a*n<10000^(N+1):=by
 have c:=dc.1 ha;rw[k_];exact C_ (z_ a (O:n<=9999)) O
theorem Ql{N V:Nat}(h:V<10000^(N+1)):au V<=fK N V:=by
 unfold fK;split
 ·exact dc.2 ‹_›
 ·exact dc.2 h
def ah(W:Nat->Int):Nat->List AV:=λi=>[.int b_ (W i)]
def aU(v i:Nat):Int:=M (bH v i)
def aI(v:Nat):Nat->List AV:=ah (aU v)
theorem gw(σ)(W)(i):bj.le σ (ah W i) (ah W i):=⟨⟨rfl,rfl⟩,trivial⟩
theorem cw(σ)(v i):bj.le σ (aI v i) (aI v i):=⟨⟨rfl,rfl⟩,trivial⟩
def dy(k:Nat)(f:Nat->List AV):Bool:=(A_ k).all λi=>match f i with|[.int b_ n]=>z (0<=n)&&z (n<10000)|_=>false
def numOf(k:Nat)(f:Nat->List AV):Nat:=yC (fy k f)
noncomputable def H6(v i:Nat):St:={t:=j_ [(0,.ae i 1 (aI v))],nt:=21,H:=c_ 12,df:=[]}
noncomputable def Mg(v n:Nat):GE:=.one (.x 0 (H6 v n))
theorem Mh(v i n)(Q):(kr [] [] 226 1012 12 (H6 v) (λ_=>Mg v n) (λi=>i-1) Q i)=(ak (z (M i>0)) (B (aJ b_ (M i-1)) (B (z (0<=M i-1)&&z (M i-1<M i)) (ak (z (aU v (h_ (M i-1))=0)) (B (aJ b_ (M i-1)) (B (z (0<=M i-1)&&z (M i-1<=M i)) (bh (h_ (M i-1-0)) (i-1) (an (h_ (M i-1-0)) (λi=>aI v (0+i)) (aI v)/\Q)))) (bh i n (zyR i (aI v) True))))) (bh i n (zyR i (aI v) True))):=U
theorem UL(v k n)(Q):(kb [] [(1012,12,H6 v k,Mg v n)] 226 [.ae k 1 (aI v)] Q)=(ay PP II false (az II (226:Nat) (1012:Nat)) (12:Nat) (H6 v k) (Mg v n)/\zyN k (zyR k (aI v) (Q (D_ n (1:Nat) (aI v))))):=U
theorem Z3(W)(k)(i)(Q):(kb [] [] 232 [.ae k 1 (ah W),.int b_ i] Q)=(ak (z (i<M k)) (B (z ((0:Int)<=i)&&z (i<M k)) (Q (d_ b_ (W i.toNat)))) (Q (d_ b_ (0:Int)))):=U
theorem pR{p q}[Decidable p][Decidable q](a:p)(b:q):(decide p&&decide q)=true:=Y
theorem yI(v n):an n (aI v) (aI v):=aaX λ_ _=>cw _ _ _
theorem yJ{k f i}(hi:i<k):(fy k f)[i]? =Option.some (a8 f i):=by
 unfold fy
 grind
theorem EV:∀(l),(∀x∈l,0<=x/\x<10000)->yC l<10000^l.length/\l=w8 l.length (yC l)
 |[],_=>⟨zC,rfl⟩
 |x::xs,h=>by
  obtain⟨a,b⟩:=EV xs (by simp_all);have hx:=h x List.mem_cons_self;have c:(x.toNat+10000*yC xs)%10000=x.toNat:=O;have d:(x.toNat+10000*yC xs)/10000=yC xs:=O;have e:((x.toNat:Nat):Int)=x:=O;simp only[yC,List.length_cons,w8]
  grind
theorem mU{k f}(h:dy k f=true):numOf k f<10000^k/\∀i,i<k->f i=aI (numOf k f) i:=by
 have key:∀i,i<k->∃n,f i=[.int b_ n]/\0<=n/\n<10000:=λi hi=>by
  have:=List.all_eq_true.1 h i (List.mem_range.2 hi)
  grind
 have hl:(fy k f).length=k:=by simp[fy]
 have c:∀x∈fy k f,0<=x/\x<10000:=λx hx=>by unfold fy at hx;obtain⟨i,hi,rfl⟩:=List.mem_map.1 hx;obtain⟨n,e,a,b⟩:=key i (List.mem_range.1 hi);unfold a8;grind
 obtain⟨a,b⟩:=EV _ c;rw[hl]at a b;refine⟨a,λi hi=>?_⟩;obtain⟨n,e,_,_⟩:=key i hi;have h3:=yJ (f:=f) hi;rw[b,yE _ _ _ hi]at h3;have h4:a8 f i=n:=by unfold a8;rw[e]
 rw[h4]at h3;rw[e];show _=[d_ b_ _];congr 2;exact(Option.some.inj h3).symm
theorem kf{k f}(h:dy k f=true):a? (λl=>l) (.ae k 1 f) (.ae k 1 (aI (numOf k f))):=
 ⟨rfl,rfl,λi hi=>by rw[(mU h).2 i hi];exact cw _ _ _⟩
theorem cO(k v):dy k (aI v)=true:=List.all_eq_true.2 λi _=>by
 have:=l7 v i;show(decide _&&decide _)=true;simp only[ba,bl];exact⟨T_ _,by show((bH v i:Nat):Int)<10000;omega⟩
theorem H7(k v):fy k (aI v)=w8 k v:=by
 refine List.ext_getElem? λi=>?_
 by_cases hi:i<k
 ·rw[yJ hi,yE _ _ _ hi];rfl
 ·rw[O_ (by simp[fy];omega),O_ (by rw[ER];omega)]
theorem mw{k v}(h:au v<=k):numOf k (aI v)=v:=by
 unfold numOf;rw[H7,BA,l_ (dc.1 h)]
theorem Mi{v k}(f:au v<=k)(p:k<=1000000):ay PP II false (az II 226 1012) 12 (H6 v k) (Mg v (au v)):=
 ay.of (ι:=Nat) fU [] (aX PP II []) 1000 12 (λi=>au v<=i/\i<=k) (H6 v) (λ_=>Mg v (au v)) (λi=>i) (λi=>i-1) k A ⟨f,dP _⟩ λi ⟨b,a⟩=>by
  have c:aJ b_ (M i-1)=true:=ai Y Y;have g:h_ (M i-1)=i-1:=by show h_ ((i:Int)-1)=_;omega
  have l:h_ (M i-1-0)=i-1:=by show h_ ((i:Int)-1-0)=_;omega
  refine(Mh v i _ _).mpr ?_;rw[g,l];refine aaz (λh=>?_) λh=>?_
  ·have m:0<i:=by simp only[bl]at h;have:(0:Int)<(i:Int):=h;omega
   refine ZF c (ZF Y (aaz (λh3=>?_) λh3=>?_))
   ·have h4:bH v (i-1)=0:=by simp only[bl]at h3;exact Int.ofNat.inj h3
    refine ZF c (ZF Y (aan A ⟨?_,⟨?_,O⟩,O,rfl⟩))
    ·intro j _ σ;show bj.le σ (aI v (0+j)) _;rw[Nat.zero_add];exact cw _ _ _
    ·refine Nat.le_of_not_lt λn=>?_
     have e:au v=i:=O;have o:v<10000^(i-1):=by
      have d:=iX v;rw[e,show i=i-1+1 by omega]at d;unfold bH at h4;have b:v/10000^(i-1)<10000:=by rw[s_ O];rwa[k_,x_]at d
      rw[l_ b]at h4;rcases Nat.div_eq_zero_iff.1 h4 with a|a
      ·omega
      ·exact a
     have:=fw _ _ o;omega
   ·have h4:bH v (i-1)≠0:=by simp only[je]at h3;exactλe=>h3 (by show M (bH v (i-1))=0;rw[e];rfl)
    refine aan ?_ ⟨yI _ _,trivial⟩;have :¬ au v<=i-1:=λe=>h4 (mR e)
    omega
  ·have m:i=0:=by simp only[je]at h;have :¬ (0:Int)<(i:Int):=h;omega
   exact aan O ⟨yI _ _,trivial⟩
theorem Ko{v k}(a:au v<=k)(b:k<=1000000):af PP II 226 [.ae k 1 (aI v)] (c_ 12) (.ret (.ae (au v) 1 (aI v)) (c_ 12)):=
 bQ (T:=[(1012,12,H6 v k,Mg v (au v))]) (λ_=>⟨rfl,rfl,λ_ _=>cw _ _ _⟩) ((UL v k _ _).mpr ⟨Mi a b,aan A ⟨yI _ _,rfl⟩⟩)
noncomputable def wv:ax PP II:=ax.pure 226
 (λX args a=>match args with
  |[.ae k 1 f]=>X.ag (dy k f&&E_ k 1000000) (a (.ae (au (numOf k f)) 1 (aI (numOf k f))))
  |[.aD]=>a (.ae (au 0) 1 (aI 0))
  |_=>X.fail)
 λX sem hX args a h=>by
  split at h
  ·obtain⟨b,c⟩:=hX.ag _ _ h;simp only[ba]at b;exact⟨_,c,λ_=>rfl,λ_=>rfl,(Ko (fw _ _ (mU b.1).1) (by simp_all)).cS ⟨kf b.1,trivial⟩⟩
  ·exact⟨_,h,λ_=>rfl,λ_=>rfl,(Ko (v:=0) (k:=0) (by rw[hZ];exact dP _) O).cS ⟨rfl,trivial⟩⟩
  ·exact zR
def cX(k:Nat)(f:Nat->List AV)(i:Int):Int:=match z (i<M k)with|true=>a8 f i.toNat|false=>0
theorem gJ{k f}(h:bN k f=true):a? (λl=>l) (.ae k 1 f) (.ae k 1 (ah (a8 f))):=⟨rfl,rfl,λi hi=>by
 have:=List.all_eq_true.1 h i (List.mem_range.2 hi);show bj.le _ (f i) [.int b_ (a8 f i)];unfold a8;split at this
 ·rename_i n a;rw[a];exact⟨⟨rfl,rfl⟩,trivial⟩
 ·cases this⟩
theorem dL(k)(W):bN k (ah W)=true:=List.all_eq_true.2 λ_ _=>rfl
theorem JX{W k i}(hi:0<=i):af PP II 232 [.ae k 1 (ah W),.int b_ i] (c_ 12) (.ret (.int b_ (cX k (ah W) i)) (c_ 12)):=
 bQ (T:=[]) (ks:=[]) (λ_=>⟨rfl,rfl⟩) ((Z3 W k i _).mpr (aaz (λh=>ZF Y (by unfold cX;rw[h];rfl)) λh=>by unfold cX;rw[h]))
noncomputable def uh:ax PP II:=ax.pure 232
 (λX args a=>match args with
  |[.ae k 1 f,.int b_ i]=>X.ag (bN k f&&z (0<=i)) (a (.int b_ (cX k f i)))
  |_=>X.fail)
 λX sem hX args a h=>by
  split at h
  ·obtain⟨b,c⟩:=hX.ag _ _ h;simp only[ba]at b;refine⟨_,c,λ_=>rfl,λ_=>rfl,?_⟩;exact(JX (W:=a8 _) Y).cS ⟨gJ b.1,⟨rfl,rfl⟩,trivial⟩
  ·exact zR
theorem qM{v k i}(a:au v<=k):cX k (aI v) (M i)=M (bH v i):=by
 unfold cX;cases h:z (M i<M k)with
 |true=>rfl
 |false=>
  simp only[je]at h;rw[mR]
  all_goals grind
noncomputable def sM(k:Nat)(a:Nat->Int):aae:=.cells [.ae k 1 (ah a)] (.ty 265)
noncomputable def Zw(n:Int):aae:=.cells [.int b_ n] (.ty 3)
noncomputable def og(g:Nat)(x y:aae)(N:Nat)(W C:Nat->Int)(i:Bool×Nat×Int):St:=match i.1 with
 |false=>{t:=j_ [(0,.int b_ (M N)),(1,.int b_ (C 0)),(2,.fn g [] [.ptr 12 0 0 0,.ptr 13 0 0 0]),(7,.slice 14 0 0 0 (some (N+1)) 1),(8,.int b_ 0)],nt:=42,H:={n:=15,t:=j_ [(12,x),(13,y),(14,.rows 0 1 (ah W) (.ty 3))]},df:=[]}
 |true=>{t:=j_ [(0,.int b_ (M N)),(1,.int b_ (C i.2.1)),(2,.fn g [] [.ptr 12 0 0 0,.ptr 13 0 0 0]),(7,.own 15 i.2.1 1),(8,.int b_ i.2.2)],nt:=42,H:={n:=16,t:=j_ [(12,x),(13,y),(15,.rows i.2.1 1 (ah W) (.ty 3))]},df:=[]}
noncomputable def ji(N:Nat)(W:Nat->Int)(L:Nat):GE:=.cond (v_ L 0)
 (.one (.x 0 {t:=j_ [(7,.slice 14 0 0 0 (some (N+1)) 1)],nt:=42,H:={n:=15,t:=j_ [(14,.rows 0 1 (ah W) (.ty 3))]},df:=[]}))
 (.one (.x 0 {t:=j_ [(7,.own 15 L 1)],nt:=42,H:={n:=16,t:=j_ [(15,.rows L 1 (ah W) (.ty 3))]},df:=[]}))
theorem H8(k m N L)(a b W C)(Q){c}(d:c=(B ((n_ (List.range.loop k []) λi=>true)&&true) (B (z (m=m)&&true&&n_ (List.range.loop m []) λi=>z (b i=b i)&&true) (B ((n_ (List.range.loop m []) λi=>true)&&true) (B (aJ b_ (cX k (ah a) 0+cX m (ah b) 0)) (B (aJ b_ (cX k (ah a) 0+cX m (ah b) 0+C 0)) (ak (z (cX k (ah a) 0+cX m (ah b) 0+C 0<0)) (B (aJ b_ (cX k (ah a) 0+cX m (ah b) 0+C 0+10000)) (ak (z (N+1=0)) (B (aJ b_ 1) (an 1 (λi=>bif i_ i 0 then ah W (0+i)else f_ 1 (g_ (0+(i-0)*1) [d_ b_ (cX k (ah a) 0+cX m (ah b) 0+C 0+10000)])) (ah W)/\zyN m (zyR m (ah b) (zyN k (zyR k (ah a) (aS (-1:Int) (C 1) (zyI (M N) Q))))))) (B (aJ b_ 1) (an 1 (λi=>bif i_ i 0 then ah W (0+i)else f_ 1 (g_ (0+(i-0)*1) [d_ b_ (cX k (ah a) 0+cX m (ah b) 0+C 0+10000)])) (ah W)/\zyN m (zyR m (ah b) (zyN k (zyR k (ah a) (aS (-1:Int) (C 1) (zyI (M N) Q))))))))) (ak (z (cX k (ah a) 0+cX m (ah b) 0+C 0>=10000)) (B (aJ b_ (m_ (cX k (ah a) 0+cX m (ah b) 0+C 0) 10000)) (ak (z (N+1=0)) (B (aJ b_ 1) (an 1 (λi=>bif i_ i 0 then ah W (0+i)else f_ 1 (g_ (0+(i-0)*1) [d_ b_ (p_ (cX k (ah a) 0+cX m (ah b) 0+C 0) 10000)])) (ah W)/\zyN m (zyR m (ah b) (zyN k (zyR k (ah a) (aS (m_ (cX k (ah a) 0+cX m (ah b) 0+C 0) 10000) (C 1) (zyI (M N) Q))))))) (B (aJ b_ 1) (an 1 (λi=>bif i_ i 0 then ah W (0+i)else f_ 1 (g_ (0+(i-0)*1) [d_ b_ (p_ (cX k (ah a) 0+cX m (ah b) 0+C 0) 10000)])) (ah W)/\zyN m (zyR m (ah b) (zyN k (zyR k (ah a) (aS (m_ (cX k (ah a) 0+cX m (ah b) 0+C 0) 10000) (C 1) (zyI (M N) Q))))))))) (ak (z (N+1=0)) (B (aJ b_ 1) (an 1 (λi=>bif i_ i 0 then ah W (0+i)else f_ 1 (g_ (0+(i-0)*1) [d_ b_ (cX k (ah a) 0+cX m (ah b) 0+C 0)])) (ah W)/\zyN m (zyR m (ah b) (zyN k (zyR k (ah a) (aS 0 (C 1) (zyI (M N) Q))))))) (B (aJ b_ 1) (an 1 (λi=>bif i_ i 0 then ah W (0+i)else f_ 1 (g_ (0+(i-0)*1) [d_ b_ (cX k (ah a) 0+cX m (ah b) 0+C 0)])) (ah W)/\zyN m (zyR m (ah b) (zyN k (zyR k (ah a) (aS 0 (C 1) (zyI (M N) Q)))))))))))))))):(kr [uh] [] 230 3007 15 (og 231 (sM k a) (sM m b) N W C) (λ_=>ji N W L) (λi=>(true,i.2.1+1,i.2.2+1)) Q (false,0,0))=(ak (z (0<M N)) c (ak (!decide (C 0=0)) c (ak (v_ L 0) (zyR 0 (ah W) (zyN (N+1) True)) (bh L 0 False)))):=by subst_vars;kernel_rfl
theorem H9(k m N L i)(j)(a b W C)(Q){d}(e:d=(B ((n_ (List.range.loop k []) λi=>true)&&z (0<=j)) (B (z (m=m)&&true&&n_ (List.range.loop m []) λi=>z (b i=b i)&&true) (B ((n_ (List.range.loop m []) λi=>true)&&z (0<=j)) (B (aJ b_ (cX k (ah a) j+cX m (ah b) j)) (B (aJ b_ (cX k (ah a) j+cX m (ah b) j+C i)) (ak (z (cX k (ah a) j+cX m (ah b) j+C i<0)) (B (aJ b_ (cX k (ah a) j+cX m (ah b) j+C i+10000)) (B (z (i<=i)&&true&&true&&z ((i+1)*8<=140737488355328)&&true) (B (aJ b_ (j+1)) (zyN (i+1) (an (i+1) (λc=>bif i_ c i then ah W c else f_ 1 (g_ (0+(c-i)*1) [d_ b_ (cX k (ah a) j+cX m (ah b) j+C i+10000)])) (ah W)/\zyN m (zyR m (ah b) (zyN k (zyR k (ah a) (zyN (i+1) (aS (-1:Int) (C (i+1)) (zyI (M N) (zyI (j+1) Q)))))))))))) (ak (z (cX k (ah a) j+cX m (ah b) j+C i>=10000)) (B (aJ b_ (m_ (cX k (ah a) j+cX m (ah b) j+C i) 10000)) (B (z (i<=i)&&true&&true&&z ((i+1)*8<=140737488355328)&&true) (B (aJ b_ (j+1)) (zyN (i+1) (an (i+1) (λc=>bif i_ c i then ah W c else f_ 1 (g_ (0+(c-i)*1) [d_ b_ (p_ (cX k (ah a) j+cX m (ah b) j+C i) 10000)])) (ah W)/\zyN m (zyR m (ah b) (zyN k (zyR k (ah a) (zyN (i+1) (aS (m_ (cX k (ah a) j+cX m (ah b) j+C i) 10000) (C (i+1)) (zyI (M N) (zyI (j+1) Q)))))))))))) (B (z (i<=i)&&true&&true&&z ((i+1)*8<=140737488355328)&&true) (B (aJ b_ (j+1)) (zyN (i+1) (an (i+1) (λc=>bif i_ c i then ah W c else f_ 1 (g_ (0+(c-i)*1) [d_ b_ (cX k (ah a) j+cX m (ah b) j+C i)])) (ah W)/\zyN m (zyR m (ah b) (zyN k (zyR k (ah a) (zyN (i+1) (aS 0 (C (i+1)) (zyI (M N) (zyI (j+1) Q))))))))))))))))))):(kr [uh] [] 230 3007 15 (og 231 (sM k a) (sM m b) N W C) (λ_=>ji N W L) (λi=>(true,i.2.1+1,i.2.2+1)) Q (true,i,j))=(ak (z (j<M N)) d (ak (!decide (C i=0)) d (ak (v_ L 0) False (bh i L (zyR i (ah W) (bh i L True)))))):=by subst_vars;kernel_rfl
theorem UM(k m N L)(a b W C)(Q){c}(d:c=(if M m>M k then M m else M k)):(kb [wv] [(3007,15,og 231 (sM k a) (sM m b) N W C (false,0,0),ji N W L)] 188 [.ae k 1 (ah a),.ae m 1 (ah b)] Q)=(B (aJ b_ (c+1)) (B (z (0<=c+1)&&Ei (8*(c+1)) 281474976710656&&Ei (c+1) 9223372036854775807) (ay PP II false (az II 230 3007) 15 (og 231 (aae.cells [D_ k 1 (ah a)] (Access.ty 265)) (aae.cells [D_ m 1 (ah b)] (Access.ty 265)) N W C (false,0,0)) (ji N W L)/\an 0 (λx=>[d_ b_ 0]) (ah W)/\zyN m (zyR m (ah b) (zyN k (zyR k (ah a) (bh (h_ (c+1)) (N+1) (aS 0 (C 0) (aS c (M N) (ak (v_ L 0) (B ((dy 0 λi=>ah W (0+i))&&true) (Q (D_ (au (numOf 0 λi=>ah W (0+i))) 1 (aI (numOf 0 λi=>ah W (0+i)))))) (B ((n_ (List.range.loop L []) λi=>true)&&z (L<=L)) (B (dy L (ah W)&&E_ L 1000000) (Q (D_ (au (numOf L (ah W))) 1 (aI (numOf L (ah W))))))))))))))))):=by subst_vars;kernel_rfl
theorem EW(k m N L)(a b W C)(Q){c}(d:c=(B ((n_ (List.range.loop k []) λi=>true)&&true) (B (z (m=m)&&true&&n_ (List.range.loop m []) λi=>z (b i=b i)&&true) (B ((n_ (List.range.loop m []) λi=>true)&&true) (B (aJ b_ (cX k (ah a) 0-cX m (ah b) 0)) (B (aJ b_ (cX k (ah a) 0-cX m (ah b) 0+C 0)) (ak (z (cX k (ah a) 0-cX m (ah b) 0+C 0<0)) (B (aJ b_ (cX k (ah a) 0-cX m (ah b) 0+C 0+10000)) (ak (z (N+1=0)) (B (aJ b_ 1) (an 1 (λi=>bif i_ i 0 then ah W (0+i)else f_ 1 (g_ (0+(i-0)*1) [d_ b_ (cX k (ah a) 0-cX m (ah b) 0+C 0+10000)])) (ah W)/\zyN m (zyR m (ah b) (zyN k (zyR k (ah a) (aS (-1:Int) (C 1) (zyI (M N) Q))))))) (B (aJ b_ 1) (an 1 (λi=>bif i_ i 0 then ah W (0+i)else f_ 1 (g_ (0+(i-0)*1) [d_ b_ (cX k (ah a) 0-cX m (ah b) 0+C 0+10000)])) (ah W)/\zyN m (zyR m (ah b) (zyN k (zyR k (ah a) (aS (-1:Int) (C 1) (zyI (M N) Q))))))))) (ak (z (cX k (ah a) 0-cX m (ah b) 0+C 0>=10000)) (B (aJ b_ (m_ (cX k (ah a) 0-cX m (ah b) 0+C 0) 10000)) (ak (z (N+1=0)) (B (aJ b_ 1) (an 1 (λi=>bif i_ i 0 then ah W (0+i)else f_ 1 (g_ (0+(i-0)*1) [d_ b_ (p_ (cX k (ah a) 0-cX m (ah b) 0+C 0) 10000)])) (ah W)/\zyN m (zyR m (ah b) (zyN k (zyR k (ah a) (aS (m_ (cX k (ah a) 0-cX m (ah b) 0+C 0) 10000) (C 1) (zyI (M N) Q))))))) (B (aJ b_ 1) (an 1 (λi=>bif i_ i 0 then ah W (0+i)else f_ 1 (g_ (0+(i-0)*1) [d_ b_ (p_ (cX k (ah a) 0-cX m (ah b) 0+C 0) 10000)])) (ah W)/\zyN m (zyR m (ah b) (zyN k (zyR k (ah a) (aS (m_ (cX k (ah a) 0-cX m (ah b) 0+C 0) 10000) (C 1) (zyI (M N) Q))))))))) (ak (z (N+1=0)) (B (aJ b_ 1) (an 1 (λi=>bif i_ i 0 then ah W (0+i)else f_ 1 (g_ (0+(i-0)*1) [d_ b_ (cX k (ah a) 0-cX m (ah b) 0+C 0)])) (ah W)/\zyN m (zyR m (ah b) (zyN k (zyR k (ah a) (aS 0 (C 1) (zyI (M N) Q))))))) (B (aJ b_ 1) (an 1 (λi=>bif i_ i 0 then ah W (0+i)else f_ 1 (g_ (0+(i-0)*1) [d_ b_ (cX k (ah a) 0-cX m (ah b) 0+C 0)])) (ah W)/\zyN m (zyR m (ah b) (zyN k (zyR k (ah a) (aS 0 (C 1) (zyI (M N) Q)))))))))))))))):(kr [uh] [] 230 3007 15 (og 233 (sM k a) (sM m b) N W C) (λ_=>ji N W L) (λi=>(true,i.2.1+1,i.2.2+1)) Q (false,0,0))=(ak (z (0<M N)) c (ak (!decide (C 0=0)) c (ak (v_ L 0) (zyR 0 (ah W) (zyN (N+1) True)) (bh L 0 False)))):=by subst_vars;kernel_rfl
theorem EX(k m N L i)(j)(a b W C)(Q){d}(e:d=(B ((n_ (List.range.loop k []) λi=>true)&&z (0<=j)) (B (z (m=m)&&true&&n_ (List.range.loop m []) λi=>z (b i=b i)&&true) (B ((n_ (List.range.loop m []) λi=>true)&&z (0<=j)) (B (aJ b_ (cX k (ah a) j-cX m (ah b) j)) (B (aJ b_ (cX k (ah a) j-cX m (ah b) j+C i)) (ak (z (cX k (ah a) j-cX m (ah b) j+C i<0)) (B (aJ b_ (cX k (ah a) j-cX m (ah b) j+C i+10000)) (B (z (i<=i)&&true&&true&&z ((i+1)*8<=140737488355328)&&true) (B (aJ b_ (j+1)) (zyN (i+1) (an (i+1) (λc=>bif i_ c i then ah W c else f_ 1 (g_ (0+(c-i)*1) [d_ b_ (cX k (ah a) j-cX m (ah b) j+C i+10000)])) (ah W)/\zyN m (zyR m (ah b) (zyN k (zyR k (ah a) (zyN (i+1) (aS (-1:Int) (C (i+1)) (zyI (M N) (zyI (j+1) Q)))))))))))) (ak (z (cX k (ah a) j-cX m (ah b) j+C i>=10000)) (B (aJ b_ (m_ (cX k (ah a) j-cX m (ah b) j+C i) 10000)) (B (z (i<=i)&&true&&true&&z ((i+1)*8<=140737488355328)&&true) (B (aJ b_ (j+1)) (zyN (i+1) (an (i+1) (λc=>bif i_ c i then ah W c else f_ 1 (g_ (0+(c-i)*1) [d_ b_ (p_ (cX k (ah a) j-cX m (ah b) j+C i) 10000)])) (ah W)/\zyN m (zyR m (ah b) (zyN k (zyR k (ah a) (zyN (i+1) (aS (m_ (cX k (ah a) j-cX m (ah b) j+C i) 10000) (C (i+1)) (zyI (M N) (zyI (j+1) Q)))))))))))) (B (z (i<=i)&&true&&true&&z ((i+1)*8<=140737488355328)&&true) (B (aJ b_ (j+1)) (zyN (i+1) (an (i+1) (λc=>bif i_ c i then ah W c else f_ 1 (g_ (0+(c-i)*1) [d_ b_ (cX k (ah a) j-cX m (ah b) j+C i)])) (ah W)/\zyN m (zyR m (ah b) (zyN k (zyR k (ah a) (zyN (i+1) (aS 0 (C (i+1)) (zyI (M N) (zyI (j+1) Q))))))))))))))))))):(kr [uh] [] 230 3007 15 (og 233 (sM k a) (sM m b) N W C) (λ_=>ji N W L) (λi=>(true,i.2.1+1,i.2.2+1)) Q (true,i,j))=(ak (z (j<M N)) d (ak (!decide (C i=0)) d (ak (v_ L 0) False (bh i L (zyR i (ah W) (bh i L True)))))):=by subst_vars;kernel_rfl
theorem Qm(k m N L)(a b W C)(Q):(kb [wv] [(3007,15,og 233 (sM k a) (sM m b) N W C (false,0,0),ji N W L)] 190 [.ae k 1 (ah a),.ae m 1 (ah b)] Q)=(B (aJ b_ (M k+1)) (B (z (0<=M k+1)&&Ei (8*(M k+1)) 281474976710656&&Ei (M k+1) 9223372036854775807) (ay PP II false (az II 230 3007) 15 (og 233 (aae.cells [D_ k 1 (ah a)] (Access.ty 265)) (aae.cells [D_ m 1 (ah b)] (Access.ty 265)) N W C (false,0,0)) (ji N W L)/\an 0 (λx=>[d_ b_ 0]) (ah W)/\zyN m (zyR m (ah b) (zyN k (zyR k (ah a) (bh (h_ (M k+1)) (N+1) (aS 0 (C 0) (aS (M k) (M N) (ak (v_ L 0) (B ((dy 0 λi=>ah W (0+i))&&true) (Q (D_ (au (numOf 0 λi=>ah W (0+i))) 1 (aI (numOf 0 λi=>ah W (0+i)))))) (B ((n_ (List.range.loop L []) λi=>true)&&z (L<=L)) (B (dy L (ah W)&&E_ L 1000000) (Q (D_ (au (numOf L (ah W))) 1 (aI (numOf L (ah W))))))))))))))))):=U
theorem Qn(k N L)(b)(a W C)(Q){c}(d:c=(B ((n_ (List.range.loop k []) λi=>true)&&true) (B (z (b=b)) (B (aJ b_ (cX k (ah a) 0*b)) (B (aJ b_ (cX k (ah a) 0*b+C 0)) (ak (z (cX k (ah a) 0*b+C 0<0)) (B (aJ b_ (cX k (ah a) 0*b+C 0+10000)) (ak (z (N+1=0)) (B (aJ b_ 1) (an 1 (λi=>bif i_ i 0 then ah W (0+i)else f_ 1 (g_ (0+(i-0)*1) [d_ b_ (cX k (ah a) 0*b+C 0+10000)])) (ah W)/\zyI b (zyN k (zyR k (ah a) (aS (-1:Int) (C 1) (zyI (M N) Q)))))) (B (aJ b_ 1) (an 1 (λi=>bif i_ i 0 then ah W (0+i)else f_ 1 (g_ (0+(i-0)*1) [d_ b_ (cX k (ah a) 0*b+C 0+10000)])) (ah W)/\zyI b (zyN k (zyR k (ah a) (aS (-1:Int) (C 1) (zyI (M N) Q)))))))) (ak (z (cX k (ah a) 0*b+C 0>=10000)) (B (aJ b_ (m_ (cX k (ah a) 0*b+C 0) 10000)) (ak (z (N+1=0)) (B (aJ b_ 1) (an 1 (λi=>bif i_ i 0 then ah W (0+i)else f_ 1 (g_ (0+(i-0)*1) [d_ b_ (p_ (cX k (ah a) 0*b+C 0) 10000)])) (ah W)/\zyI b (zyN k (zyR k (ah a) (aS (m_ (cX k (ah a) 0*b+C 0) 10000) (C 1) (zyI (M N) Q)))))) (B (aJ b_ 1) (an 1 (λi=>bif i_ i 0 then ah W (0+i)else f_ 1 (g_ (0+(i-0)*1) [d_ b_ (p_ (cX k (ah a) 0*b+C 0) 10000)])) (ah W)/\zyI b (zyN k (zyR k (ah a) (aS (m_ (cX k (ah a) 0*b+C 0) 10000) (C 1) (zyI (M N) Q)))))))) (ak (z (N+1=0)) (B (aJ b_ 1) (an 1 (λi=>bif i_ i 0 then ah W (0+i)else f_ 1 (g_ (0+(i-0)*1) [d_ b_ (cX k (ah a) 0*b+C 0)])) (ah W)/\zyI b (zyN k (zyR k (ah a) (aS 0 (C 1) (zyI (M N) Q)))))) (B (aJ b_ 1) (an 1 (λi=>bif i_ i 0 then ah W (0+i)else f_ 1 (g_ (0+(i-0)*1) [d_ b_ (cX k (ah a) 0*b+C 0)])) (ah W)/\zyI b (zyN k (zyR k (ah a) (aS 0 (C 1) (zyI (M N) Q)))))))))))))):(kr [uh] [] 230 3007 15 (og 248 (sM k a) (Zw b) N W C) (λ_=>ji N W L) (λi=>(true,i.2.1+1,i.2.2+1)) Q (false,0,0))=(ak (z (0<M N)) c (ak (!decide (C 0=0)) c (ak (v_ L 0) (zyR 0 (ah W) (zyN (N+1) True)) (bh L 0 False)))):=by subst_vars;kernel_rfl
theorem Qo(k N L i)(b)(j)(a W C)(Q){d}(e:d=(B ((n_ (List.range.loop k []) λi=>true)&&z (0<=j)) (B (z (b=b)) (B (aJ b_ (cX k (ah a) j*b)) (B (aJ b_ (cX k (ah a) j*b+C i)) (ak (z (cX k (ah a) j*b+C i<0)) (B (aJ b_ (cX k (ah a) j*b+C i+10000)) (B (z (i<=i)&&true&&true&&z ((i+1)*8<=140737488355328)&&true) (B (aJ b_ (j+1)) (zyN (i+1) (an (i+1) (λc=>bif i_ c i then ah W c else f_ 1 (g_ (0+(c-i)*1) [d_ b_ (cX k (ah a) j*b+C i+10000)])) (ah W)/\zyI b (zyN k (zyR k (ah a) (zyN (i+1) (aS (-1:Int) (C (i+1)) (zyI (M N) (zyI (j+1) Q))))))))))) (ak (z (cX k (ah a) j*b+C i>=10000)) (B (aJ b_ (m_ (cX k (ah a) j*b+C i) 10000)) (B (z (i<=i)&&true&&true&&z ((i+1)*8<=140737488355328)&&true) (B (aJ b_ (j+1)) (zyN (i+1) (an (i+1) (λc=>bif i_ c i then ah W c else f_ 1 (g_ (0+(c-i)*1) [d_ b_ (p_ (cX k (ah a) j*b+C i) 10000)])) (ah W)/\zyI b (zyN k (zyR k (ah a) (zyN (i+1) (aS (m_ (cX k (ah a) j*b+C i) 10000) (C (i+1)) (zyI (M N) (zyI (j+1) Q))))))))))) (B (z (i<=i)&&true&&true&&z ((i+1)*8<=140737488355328)&&true) (B (aJ b_ (j+1)) (zyN (i+1) (an (i+1) (λc=>bif i_ c i then ah W c else f_ 1 (g_ (0+(c-i)*1) [d_ b_ (cX k (ah a) j*b+C i)])) (ah W)/\zyI b (zyN k (zyR k (ah a) (zyN (i+1) (aS 0 (C (i+1)) (zyI (M N) (zyI (j+1) Q))))))))))))))))):(kr [uh] [] 230 3007 15 (og 248 (sM k a) (Zw b) N W C) (λ_=>ji N W L) (λi=>(true,i.2.1+1,i.2.2+1)) Q (true,i,j))=(ak (z (j<M N)) d (ak (!decide (C i=0)) d (ak (v_ L 0) False (bh i L (zyR i (ah W) (bh i L True)))))):=by subst_vars;kernel_rfl
theorem Z4(k N L)(b)(a W C)(Q):(kb [wv] [(3007,15,og 248 (sM k a) (Zw b) N W C (false,0,0),ji N W L)] 227 [.ae k 1 (ah a),.int b_ b] Q)=(B (aJ b_ (M k+1)) (B (z (0<=M k+1)&&Ei (8*(M k+1)) 281474976710656&&Ei (M k+1) 9223372036854775807) (ay PP II false (az II 230 3007) 15 (og 248 (aae.cells [D_ k 1 (ah a)] (Access.ty 265)) (aae.cells [d_ b_ b] (Access.ty 3)) N W C (false,0,0)) (ji N W L)/\an 0 (λx=>[d_ b_ 0]) (ah W)/\zyI b (zyN k (zyR k (ah a) (bh (h_ (M k+1)) (N+1) (aS 0 (C 0) (aS (M k) (M N) (ak (v_ L 0) (B ((dy 0 λi=>ah W (0+i))&&true) (Q (D_ (au (numOf 0 λi=>ah W (0+i))) 1 (aI (numOf 0 λi=>ah W (0+i)))))) (B ((n_ (List.range.loop L []) λi=>true)&&z (L<=L)) (B (dy L (ah W)&&E_ L 1000000) (Q (D_ (au (numOf L (ah W))) 1 (aI (numOf L (ah W)))))))))))))))):=U
end
end Go.Sx
