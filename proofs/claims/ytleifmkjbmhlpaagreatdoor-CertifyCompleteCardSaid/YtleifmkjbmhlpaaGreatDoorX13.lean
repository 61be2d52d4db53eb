/- The proof of a statement of the seat, part 13. -/
import Derived.Test.YtleifmkjbmhlpaaGreatDoorX10
import Derived.Test.YtleifmkjbmhlpaaGreatDoorX12
import Derived.Test.YtleifmkjbmhlpaaGreatDoorX07
set_option linter.all false
set_option linter.defProp false
set_option maxRecDepth 1000000
namespace Go.Sx
open Go
open List renaming length->M,append->t_,range->u_,replicate->z_,append_assoc->D_
open Int renaming emod->z,toNat->b_,ofNat->d_,fdiv->e_,toNat_of_nonneg->q_,natCast_nonneg->v_,emod_eq_of_lt->x_,pow->y_,fdiv_eq_ediv_of_nonneg->B_,emod_lt_of_pos->C_,toNat_natCast->E_,natCast_ediv->G_,natCast_mul->H_,emod_nonneg->I_,tmod->L_
open Decidable renaming decide->a_
open AV renaming int->c_,str->F_
open UInt8 renaming ofNat->f_
open Go.IntKind renaming i64->g_
open Tr renaming ofList->h_
open Nat renaming xor->i_,lor->j_,land->k_,shiftRight_eq_div_pow->m_,or_lt_two_pow->n_,div_le_self->p_,two_pow_add_eq_or_of_lt->r_,lt_of_le_of_lt->s_,mod_lt->w_,ble->A_
open And renaming intro->l_
open AH renaming blank->o_,get_set_same->J_,aL->M_,get->N_
noncomputable section
def XV(x k)(Q):(kb [] [] 206 [.int .u32 x,.int g_ k] Q)=(let a:=(d_ (k_ (b_ (z (z k 18446744073709551616) 18446744073709551616)) 31));let b:=(32-z a 18446744073709551616);(B (a_ (0<=z a 18446744073709551616)&&true) (B (a_ (0<=z b 18446744073709551616)) (Q (c_ .u32 (z (d_ (j_ (b_ (z (z (x*y_ 2 (if b_ (z a 18446744073709551616)<=32 then b_ (z a 18446744073709551616)else 32)) 4294967296) 4294967296)) (b_ (z (e_ x (y_ 2 (if b_ (z b 18446744073709551616)<=32 then b_ (z b 18446744073709551616)else 32))) 4294967296)))) 4294967296)))))):=U
def Z9{n:Nat}(d:1<=n)(e:n<=31):z (d_ (k_ (b_ (z (z (-(n:Int)) 18446744073709551616) 18446744073709551616)) 31)) 18446744073709551616=((32-n:Nat):Int):=by
 have a:b_ (z (z (-(n:Int)) 18446744073709551616) 18446744073709551616)=18446744073709551616-n:=by show((-(n:Int))%18446744073709551616%18446744073709551616).toNat=_;omega
 have b:k_ (18446744073709551616-n) 31=(18446744073709551616-n)%32:=Nat.and_two_pow_sub_one_eq_mod _ 5;rw[a,b];have c:(18446744073709551616-n)%32=32-n:=O;rw[c];exact x_ (by show(0:Int)<=((32-n:Nat):Int);omega) (by show((32-n:Nat):Int)<_;omega)
def XW{x n:Nat}(hx:x<4294967296)(b:1<=n)(c:n<=31):af PP II 206 [.int .u32 x,.int g_ (-(n:Int))] (o_ 12) (.ret (.int .u32 (kE.pS x n)) (o_ 12)):=by
 refine bQ (ks:=[]) (T:=[]) (λ_=>⟨rfl,rfl⟩) ((XV x (-(n:Int)) _).mpr ?_);simp only[Z9 b c];have d:z (32-((32-n:Nat):Int)) 18446744073709551616=(n:Int):=by show(32-((32-n:Nat):Int))%18446744073709551616=_;omega
 simp only[d,E_];rw[if_pos O,if_pos O];have e:y_ 2 (32-n)=((2^(32-n):Nat):Int):=by show(2:Int)^_=_;simp
 have f:y_ 2 n=((2^n:Nat):Int):=by show(2:Int)^_=_;simp
 rw[e,f];have g:b_ (z (z ((x:Int)*((2^(32-n):Nat):Int)) 4294967296) 4294967296)=(x*2^(32-n))%4294967296:=by rw[<-H_];show(((x*2^(32-n):Nat):Int)%4294967296%4294967296).toNat=_;generalize x*2^(32-n)=p;omega
 have h:b_ (z (e_ (x:Int) ((2^n:Nat):Int)) 4294967296)=x/2^n:=by rw[B_ _ (v_ _),<-G_];have:x/2^n<=x:=p_ _ _;show(((x/2^n:Nat):Int)%4294967296).toNat=_;generalize x/2^n=p at*;omega
 rw[g,h];refine ZF zA (ZF zA ?_);congr 1;have a:j_ ((x*2^(32-n))%4294967296) (x/2^n)=kE.pS x n:=by
  show(x*2^(32-n))%4294967296 ||| x/2^n=j_ (x>>>n) ((x <<< (32-n))%4294967296)
  rw[m_,Nat.shiftLeft_eq];exact Nat.or_comm _ _
 rw[a];have:kE.pS x n<4294967296:=by rw[<-a];exact n_ (n:=32) (w_ _ O) (s_ (p_ _ _) hx)
 exact x_ (by show(0:Int)<=(kE.pS x n:Int);omega) (by show(kE.pS x n:Int)<_;omega)
def XX{x n}(hx:x<4294967296):kE.pS x n<4294967296 :=
 n_ (n:=32) (by show x>>>n<_;rw[m_];exact s_ (p_ _ _) hx) (w_ _ O)
def UR:ax PP II:=ax.pure 206
 (λX args a=>match args with
  |[.int .u32 x,.int g_ k]=>X.ag (a_ (0<=x)&&a_ (x<4294967296)&&a_ (-31<=k)&&a_ (k<= -1)) (a (.int .u32 (kE.pS x.toNat (-k).toNat)))
  |_=>X.fail)
 λX sem hX args a h=>by
  split at h
  ·rename_i x k;obtain⟨b,c⟩:=hX.ag _ _ h;simp only[ba,bl]at b;refine⟨_,c,λ_=>rfl,λ_=>rfl,?_⟩;have:=XW (x:=x.toNat) (n:=(-k).toNat) O O O
   rwa[q_ b.1.1.1,q_ O,Int.neg_neg]at this
  ·exact zR
def Mo(x a b)(Q):(kb [UR] [] 164 [.int .u32 x,pQ [a,b]] Q)=(B (aJ g_ (0-a)) (B (a_ (0<=x)&&a_ (x<4294967296)&&a_ ((-31:Int)<=0-a)&&a_ (0-a<=(-1:Int))) (B (aJ g_ 1) (B (aJ g_ (0-b)) (B (a_ (0<=x)&&a_ (x<4294967296)&&a_ ((-31:Int)<=0-b)&&a_ (0-b<=(-1:Int))) (B (aJ g_ 2) (Q (c_ .u32 (z (d_ (i_ (b_ (z (z (d_ (i_ 0 (b_ (z (d_ (kE.pS x.toNat (b_ (-(0-a))))) 4294967296)))) 4294967296) 4294967296)) (b_ (z (d_ (kE.pS x.toNat (b_ (-(0-b))))) 4294967296)))) 4294967296))))))))):=U
def Mp(x a b c)(Q):(kb [UR] [] 164 [.int .u32 x,pQ [a,b,c]] Q)=(B (aJ g_ (0-a)) (B (a_ (0<=x)&&a_ (x<4294967296)&&a_ ((-31:Int)<=0-a)&&a_ (0-a<=(-1:Int))) (B (aJ g_ 1) (B (aJ g_ (0-b)) (B (a_ (0<=x)&&a_ (x<4294967296)&&a_ ((-31:Int)<=0-b)&&a_ (0-b<=(-1:Int))) (B (aJ g_ 2) (B (aJ g_ (0-c)) (B (a_ (0<=x)&&a_ (x<4294967296)&&a_ ((-31:Int)<=0-c)&&a_ (0-c<=(-1:Int))) (B (aJ g_ 3) (Q (c_ .u32 (z (d_ (i_ (b_ (z (z (d_ (i_ (b_ (z (z (d_ (i_ 0 (b_ (z (d_ (kE.pS x.toNat (b_ (-(0-a))))) 4294967296)))) 4294967296) 4294967296)) (b_ (z (d_ (kE.pS x.toNat (b_ (-(0-b))))) 4294967296)))) 4294967296) 4294967296)) (b_ (z (d_ (kE.pS x.toNat (b_ (-(0-c))))) 4294967296)))) 4294967296)))))))))))):=U
def lB(n:Nat):Prop:=n<4294967296
def m32{n}(h:lB n):z (d_ n) 4294967296=d_ n:=x_ (by show(0:Int)<=(n:Int);omega) (by show(n:Int)<_;exact Int.ofNat_lt.2 h)
def lB.xor{a b}(h:lB a)(k:lB b):lB (i_ a b):=Nat.xor_lt_two_pow (n:=32) h k
def lB.and{a b:Nat}(h:lB a):lB (k_ a b):=s_ Nat.and_le_left h
def lB.pS{a n}(h:lB a):lB (kE.pS a n):=XX h
def lB.add{a b}:lB (kE.ey a b):=w_ _ O
def De(a b):z (d_ a+d_ b) 4294967296=d_ (kE.ey a b):=by
 show((a:Int)+(b:Int))%4294967296=((a+b)%4294967296:Nat);omega
def ui(x a b:Nat):Nat:=i_ (kE.pS x a) (kE.pS x b)
def EZ(x a b c:Nat):Nat:=i_ (i_ (kE.pS x a) (kE.pS x b)) (kE.pS x c)
def zero_xor(a:Nat):i_ 0 a=a:=Nat.zero_xor a
def Mq{x a b:Nat}(hx:lB x)(ha:1<=a/\a<=31)(h:1<=b/\b<=31):af PP II 164 [.int .u32 x,pQ [a,b]] (o_ 12) (.ret (.int .u32 (ui x a b)) (o_ 12)):=by
 refine bQ (ks:=[UR]) (T:=[]) (λ_=>⟨rfl,rfl⟩) ((Mo x a b _).mpr ?_);have d:(-((0:Int)-(a:Int))).toNat=a:=O;have e:(-((0:Int)-(b:Int))).toNat=b:=O;have f:b_ (x:Int)=x:=rfl;have r1:=lB.pS (n:=a) hx;have c:=lB.pS (n:=b) hx;simp only[f,d,e,m32 r1,m32 c,zero_xor,toNat_ofNat,m32 (r1.xor c)];have g:x<4294967296:=hx
 repeat' (with_reducible first|exact trivial|rfl|exact aaX λ_ _=>sX _ _ _|refine aan ?_ ?_|refine aag ?_ ?_|refine aaY ?_ ?_|refine ZF ?_ ?_|refine l_ ?_ ?_)
 ·exact ai O O
 ·simp;omega
 ·rfl
 ·exact ai O O
 ·simp;omega
 ·rfl
 ·rfl
def Mr{x a b c:Nat}(hx:lB x)(ha:1<=a/\a<=31)(k:1<=b/\b<=31)(l:1<=c/\c<=31):af PP II 164 [.int .u32 x,pQ [a,b,c]] (o_ 12) (.ret (.int .u32 (EZ x a b c)) (o_ 12)):=by
 refine bQ (ks:=[UR]) (T:=[]) (λ_=>⟨rfl,rfl⟩) ((Mp x a b c _).mpr ?_);have f:(-((0:Int)-(a:Int))).toNat=a:=O;have g:(-((0:Int)-(b:Int))).toNat=b:=O;have h:(-((0:Int)-(c:Int))).toNat=c:=O;have i:b_ (x:Int)=x:=rfl;have r1:=lB.pS (n:=a) hx;have d:=lB.pS (n:=b) hx;have e:=lB.pS (n:=c) hx;simp only[i,f,g,h,m32 r1,m32 d,m32 e,zero_xor,toNat_ofNat,m32 (r1.xor d),m32 ((r1.xor d).xor e)];have j:x<4294967296:=hx
 repeat' (with_reducible first|exact trivial|rfl|exact aaX λ_ _=>sX _ _ _|refine aan ?_ ?_|refine aag ?_ ?_|refine aaY ?_ ?_|refine ZF ?_ ?_|refine l_ ?_ ?_)
 ·exact ai O O
 ·simp;omega
 ·rfl
 ·exact ai O O
 ·simp;omega
 ·rfl
 ·exact ai O O
 ·simp;omega
 ·rfl
 ·rfl
def yM(a:Int):Bool:=a_ (1<=a)&&a_ (a<=31)
def vy:ax PP II:=ax.pure 164
 (λX args e=>match args with
  |[.int .u32 x,.ae 2 1 f]=>match f 0,f 1 with
   |[.int g_ a],[.int g_ b]=>X.ag (a_ (0<=x)&&a_ (x<4294967296)&&yM a&&yM b) (e (.int .u32 (ui x.toNat a.toNat b.toNat)))
   |_,_=>X.fail
  |[.int .u32 x,.ae 3 1 f]=>match f 0,f 1,f 2 with
   |[.int g_ a],[.int g_ b],[.int g_ c]=>X.ag (a_ (0<=x)&&a_ (x<4294967296)&&yM a&&yM b&&yM c) (e (.int .u32 (EZ x.toNat a.toNat b.toNat c.toNat)))
   |_,_,_=>X.fail
  |_=>X.fail)
 λX sem hX args e h=>by
  split at h
  ·rename_i x f;split at h
   ·rename_i a b g j;obtain⟨d,h3⟩:=hX.ag _ _ h;simp only[ba,bl,yM]at d;obtain⟨⟨⟨k,l⟩,m⟩,n⟩:=d;refine⟨_,h3,λ_=>rfl,λ_=>rfl,?_⟩;have:=Mq (x:=x.toNat) (a:=a.toNat) (b:=b.toNat) (by show x.toNat<_;omega) O O;rw[q_ k]at this;refine this.cS ⟨⟨rfl,rfl⟩,⟨rfl,rfl,λi hi=>?_⟩,trivial⟩
    match i,hi with
    |0,_=>rw[g];exact⟨⟨rfl,by show a=(a.toNat:Int);omega⟩,trivial⟩
    |1,_=>rw[j];exact⟨⟨rfl,by show b=(b.toNat:Int);omega⟩,trivial⟩
   ·exact zR
  ·rename_i x f;split at h
   ·rename_i a b c g j d;obtain⟨h3,h4⟩:=hX.ag _ _ h;simp only[ba,bl,yM]at h3;obtain⟨⟨⟨⟨k,l⟩,m⟩,n⟩,o⟩:=h3;refine⟨_,h4,λ_=>rfl,λ_=>rfl,?_⟩;have:=Mr (x:=x.toNat) (a:=a.toNat) (b:=b.toNat) (c:=c.toNat) (by show x.toNat<_;omega) O O O;rw[q_ k]at this;refine this.cS ⟨⟨rfl,rfl⟩,⟨rfl,rfl,λi hi=>?_⟩,trivial⟩
    match i,hi with
    |0,_=>rw[g];exact⟨⟨rfl,by show a=(a.toNat:Int);omega⟩,trivial⟩
    |1,_=>rw[j];exact⟨⟨rfl,by show b=(b.toNat:Int);omega⟩,trivial⟩
    |2,_=>rw[d];exact⟨⟨rfl,by show c=(c.toNat:Int);omega⟩,trivial⟩
   ·exact zR
  ·exact zR
def dh(b:Nat->Int)(i:Nat):List AV:=[.int .u8 (b i)]
def uj(b:Nat->Int):AV:=.ae 64 1 (dh b)
def pT(W:Nat->Int)(j:Nat):List AV:=[.int .u32 (W j)]
def mV(W:Nat->Int):List AV:=(u_ 64).map λj=> .int .u32 (W j)
def T6(W:Nat->Int)(k:Nat)(x:Int)(j:Nat):Int:=if j=k then x else W j
def XY(W:Nat->Int):AH:={n:=13,t:=h_ [(12,.rows 64 1 (pT W) (.ty 236))]}
def BE(b:Nat->Int)(i:Int×(Nat->Int)):St:={t:=h_ [(0,uj b),(2,.ptr 12 0 0 0),(7,.int g_ i.1)],nt:=84,H:=XY i.2,df:=[]}
def BF(i:Int×(Nat->Int)):St:={t:=h_ [(2,.ptr 12 0 0 0),(4,.int g_ i.1)],nt:=84,H:=XY i.2,df:=[]}
def BG(W:Nat->Int):GE:=.one (.x 0 {t:=h_ [(2,.ptr 12 0 0 0)],nt:=84,H:=XY W,df:=[]})
def BH(W:Nat->Int):GE:=.one (.x 2 {t:=h_ [(2,.ptr 12 0 0 0)],nt:=84,H:={n:=13,t:=h_ [(12,.cells (mV W) (.ty 236))]},df:=[]})
def wx(b:Nat->Int)(k:Nat):Int:=b k*16777216+b (k+1)*65536+b (k+2)*256+b (k+3)
def wy(W:Nat->Int)(i:Nat):Int:=(kE.ey (kE.ey (kE.ey (W (i-16)).toNat (kE.yL (W (i-15)).toNat)) (W (i-7)).toNat) (kE.Ic (W (i-2)).toNat):Nat)
def Ms(b c)(i)(W)(Q):(kr [] [] 163 2001 13 (BE b) (λ_=>BG c) (λi=>(i.1+1,T6 i.2 i.1.toNat (wx b (4*i.1.toNat)))) Q (i,W))=(ak (a_ (i<16)) (B (aJ g_ (4*i)) (B (a_ (0<=4*i)&&a_ (4*i<64)) (B (aJ g_ (4*i)) (B (aJ g_ (4*i+1)) (B (a_ (0<=4*i+1)&&a_ (4*i+1<64)) (B (aJ g_ (4*i)) (B (aJ g_ (4*i+2)) (B (a_ (0<=4*i+2)&&a_ (4*i+2<64)) (B (aJ g_ (4*i)) (B (aJ g_ (4*i+3)) (B (a_ (0<=4*i+3)&&a_ (4*i+3<64)) (B (a_ (0<=i)&&a_ (i<64)) (B (a_ (i.toNat<64)) (B (aJ g_ (i+1)) (an 64 (λa=>bif a_ (a=i.toNat)then [c_ .u32 (z (d_ (j_ (b_ (z (z (d_ (j_ (b_ (z (z (d_ (j_ (b_ (z (z (z (b (b_ (4*i))) 4294967296*16777216) 4294967296) 4294967296)) (b_ (z (z (z (b (b_ (4*i+1))) 4294967296*65536) 4294967296) 4294967296)))) 4294967296) 4294967296)) (b_ (z (z (z (b (b_ (4*i+2))) 4294967296*256) 4294967296) 4294967296)))) 4294967296) 4294967296)) (b_ (z (z (b (b_ (4*i+3))) 4294967296) 4294967296)))) 4294967296)]else pT W a) (pT λj=>if j=i.toNat then wx b (4*i.toNat)else W j)/\zyI (i+1) (zyR 64 (dh b) Q)))))))))))))))) (an 64 (pT W) (pT c)/\True)):=U
def Mt(a)(i)(W)(Q):(kr [vy] [] 163 7002 13 BF (λ_=>BH a) (λi=>(i.1+1,T6 i.2 i.1.toNat (wy i.2 i.1.toNat))) Q (i,W))=(let b:=(a_ (b_ (i-16)<64));let c:=(a_ (b_ (i-7)<64));let d:=(a_ (W (b_ (i-16))=W (b_ (i-16))));let e:=(a_ (W (b_ (i-7))=W (b_ (i-7))));(ak (a_ (i<64)) (B (aJ g_ (i-15)) (B (a_ (0<=i-15)&&a_ (i-15<64)) (B (a_ (b_ (i-15)<64)) (B (aJ g_ (i-2)) (B (a_ (0<=i-2)&&a_ (i-2<64)) (B (a_ (b_ (i-2)<64)) (B (aJ g_ (i-16)) (B (a_ (0<=i-16)&&a_ (i-16<64)) (B b (B (a_ (0<=W (b_ (i-15)))&&a_ (W (b_ (i-15))<4294967296)&&true&&true) (B b (B d (B (aJ g_ (i-7)) (B (a_ (0<=i-7)&&a_ (i-7<64)) (B c (B c (B e (B (a_ (0<=W (b_ (i-2)))&&a_ (W (b_ (i-2))<4294967296)&&true&&true) (B c (B e (B b (B d (B (a_ (0<=i)&&a_ (i<64)) (B (a_ (i.toNat<64)) (B (aJ g_ (i+1)) (an 64 (λf=>bif a_ (f=i.toNat)then [c_ .u32 (z (z (z (W (b_ (i-16))+z (d_ (i_ (b_ (z (d_ (ui (b_ (W (b_ (i-15)))) 7 18)) 4294967296)) (b_ (z (e_ (W (b_ (i-15))) 8) 4294967296)))) 4294967296) 4294967296+W (b_ (i-7))) 4294967296+z (d_ (i_ (b_ (z (d_ (ui (b_ (W (b_ (i-2)))) 17 19)) 4294967296)) (b_ (z (e_ (W (b_ (i-2))) 1024) 4294967296)))) 4294967296) 4294967296)]else pT W f) (pT λj=>if j=i.toNat then wy W i.toNat else W j)/\zyI (i+1) Q)))))))))))))))))))))))))) (aS (W 0) (a 0) (aS (W 1) (a 1) (aS (W 2) (a 2) (aS (W 3) (a 3) (aS (W 4) (a 4) (aS (W 5) (a 5) (aS (W 6) (a 6) (aS (W 7) (a 7) (aS (W 8) (a 8) (aS (W 9) (a 9) (aS (W 10) (a 10) (aS (W 11) (a 11) (aS (W 12) (a 12) (aS (W 13) (a 13) (aS (W 14) (a 14) (aS (W 15) (a 15) (aS (W 16) (a 16) (aS (W 17) (a 17) (aS (W 18) (a 18) (aS (W 19) (a 19) (aS (W 20) (a 20) (aS (W 21) (a 21) (aS (W 22) (a 22) (aS (W 23) (a 23) (aS (W 24) (a 24) (aS (W 25) (a 25) (aS (W 26) (a 26) (aS (W 27) (a 27) (aS (W 28) (a 28) (aS (W 29) (a 29) (aS (W 30) (a 30) (aS (W 31) (a 31) (aS (W 32) (a 32) (aS (W 33) (a 33) (aS (W 34) (a 34) (aS (W 35) (a 35) (aS (W 36) (a 36) (aS (W 37) (a 37) (aS (W 38) (a 38) (aS (W 39) (a 39) (aS (W 40) (a 40) (aS (W 41) (a 41) (aS (W 42) (a 42) (aS (W 43) (a 43) (aS (W 44) (a 44) (aS (W 45) (a 45) (aS (W 46) (a 46) (aS (W 47) (a 47) (aS (W 48) (a 48) (aS (W 49) (a 49) (aS (W 50) (a 50) (aS (W 51) (a 51) (aS (W 52) (a 52) (aS (W 53) (a 53) (aS (W 54) (a 54) (aS (W 55) (a 55) (aS (W 56) (a 56) (aS (W 57) (a 57) (aS (W 58) (a 58) (aS (W 59) (a 59) (aS (W 60) (a 60) (aS (W 61) (a 61) (aS (W 62) (a 62) (aS (W 63) (a 63) True)))))))))))))))))))))))))))))))))))))))))))))))))))))))))))))))))):=U
def Qs(b W a)(Q):(kb [vy] [(2001,13,BE b (0,λ_=>0),BG W),(7002,13,BF (16,W),BH a)] 163 [uj b] Q)=(ay PP II false (az II 163 2001) 13 (BE b (0,λx=>0)) (BG W)/\an 64 (bY [c_ .u32 0,c_ .u32 0,c_ .u32 0,c_ .u32 0,c_ .u32 0,c_ .u32 0,c_ .u32 0,c_ .u32 0,c_ .u32 0,c_ .u32 0,c_ .u32 0,c_ .u32 0,c_ .u32 0,c_ .u32 0,c_ .u32 0,c_ .u32 0,c_ .u32 0,c_ .u32 0,c_ .u32 0,c_ .u32 0,c_ .u32 0,c_ .u32 0,c_ .u32 0,c_ .u32 0,c_ .u32 0,c_ .u32 0,c_ .u32 0,c_ .u32 0,c_ .u32 0,c_ .u32 0,c_ .u32 0,c_ .u32 0,c_ .u32 0,c_ .u32 0,c_ .u32 0,c_ .u32 0,c_ .u32 0,c_ .u32 0,c_ .u32 0,c_ .u32 0,c_ .u32 0,c_ .u32 0,c_ .u32 0,c_ .u32 0,c_ .u32 0,c_ .u32 0,c_ .u32 0,c_ .u32 0,c_ .u32 0,c_ .u32 0,c_ .u32 0,c_ .u32 0,c_ .u32 0,c_ .u32 0,c_ .u32 0,c_ .u32 0,c_ .u32 0,c_ .u32 0,c_ .u32 0,c_ .u32 0,c_ .u32 0,c_ .u32 0,c_ .u32 0,c_ .u32 0] 1) (pT λx=>0)/\zyR 64 (dh b) (ay PP II false (az II 163 7002) 13 (BF (16,W)) (BH a)/\zyR 64 (pT W) (Q (AV.agg [c_ .u32 (a 0),c_ .u32 (a 1),c_ .u32 (a 2),c_ .u32 (a 3),c_ .u32 (a 4),c_ .u32 (a 5),c_ .u32 (a 6),c_ .u32 (a 7),c_ .u32 (a 8),c_ .u32 (a 9),c_ .u32 (a 10),c_ .u32 (a 11),c_ .u32 (a 12),c_ .u32 (a 13),c_ .u32 (a 14),c_ .u32 (a 15),c_ .u32 (a 16),c_ .u32 (a 17),c_ .u32 (a 18),c_ .u32 (a 19),c_ .u32 (a 20),c_ .u32 (a 21),c_ .u32 (a 22),c_ .u32 (a 23),c_ .u32 (a 24),c_ .u32 (a 25),c_ .u32 (a 26),c_ .u32 (a 27),c_ .u32 (a 28),c_ .u32 (a 29),c_ .u32 (a 30),c_ .u32 (a 31),c_ .u32 (a 32),c_ .u32 (a 33),c_ .u32 (a 34),c_ .u32 (a 35),c_ .u32 (a 36),c_ .u32 (a 37),c_ .u32 (a 38),c_ .u32 (a 39),c_ .u32 (a 40),c_ .u32 (a 41),c_ .u32 (a 42),c_ .u32 (a 43),c_ .u32 (a 44),c_ .u32 (a 45),c_ .u32 (a 46),c_ .u32 (a 47),c_ .u32 (a 48),c_ .u32 (a 49),c_ .u32 (a 50),c_ .u32 (a 51),c_ .u32 (a 52),c_ .u32 (a 53),c_ .u32 (a 54),c_ .u32 (a 55),c_ .u32 (a 56),c_ .u32 (a 57),c_ .u32 (a 58),c_ .u32 (a 59),c_ .u32 (a 60),c_ .u32 (a 61),c_ .u32 (a 62),c_ .u32 (a 63)])))):=U
def Df{x}(h:0<=x/\x<4294967296):∃a:Nat,x=(a:Int)/\lB a:=⟨x.toNat,O,by show x.toNat<_;omega⟩
def Qt(a k)(h:lB a):b_ (z (e_ (a:Int) ((2^k:Nat):Int)) 4294967296)=a>>>k:=by
 rw[B_ _ (v_ _),<-G_,m_];have:a/2^k<=a:=p_ _ _;have h:a<4294967296:=h;show(((a/2^k:Nat):Int)%4294967296).toNat=_
 grind
def lB.shr{a}(h:lB a)(k):lB (a>>>k):=by
 show a>>>k<_;rw[m_];exact s_ (p_ _ _) h
def lB.ui{a p q}(h:lB a):lB (ui a p q):=(h.pS).xor h.pS
def lB.EZ{a p q r}(h:lB a):lB (EZ a p q r):=((h.pS).xor h.pS).xor h.pS
def US{a b c d}(_:lB a)(e:lB b)(_:lB c)(f:lB d):
  z (z (z ((a:Int)+z (d_ (i_ (b_ (z (d_ (ui (b_ (b:Int)) 7 18)) 4294967296)) (b_ (z (e_ (b:Int) 8) 4294967296)))) 4294967296) 4294967296+(c:Int)) 4294967296+z (d_ (i_ (b_ (z (d_ (ui (b_ (d:Int)) 17 19)) 4294967296)) (b_ (z (e_ (d:Int) 1024) 4294967296)))) 4294967296) 4294967296=
   ((kE.ey (kE.ey (kE.ey a (kE.yL b)) c) (kE.Ic d):Nat):Int):=by
 have g:b_ (z (e_ (b:Int) 8) 4294967296)=b>>>3:=Qt b 3 e;have h:b_ (z (e_ (d:Int) 1024) 4294967296)=d>>>10:=Qt d 10 f;have t1:i_ (ui b 7 18) (b>>>3)=kE.yL b:=rfl;have t2:i_ (ui d 17 19) (d>>>10)=kE.Ic d:=rfl;have i:lB (kE.yL b):=(e.ui (p:=7) (q:=18)).xor (e.shr 3);have j:lB (kE.Ic d):=(f.ui (p:=17) (q:=19)).xor (f.shr 10);rw[g,h];simp only[E_,m32 e.ui,m32 f.ui,toNat_ofNat,t1,t2,m32 i,m32 j];rfl
def UT{a b c d:Nat}(h:b<256)(j:c<256)(k:d<256):j_ (j_ (j_ (a*16777216) (b*65536)) (c*256)) d=a*16777216+b*65536+c*256+d:=by
 have f:j_ (a*16777216) (b*65536)=a*16777216+b*65536:=by have:=r_ (b:=b*65536) (i:=24) O a;rw[Nat.mul_comm (2^24) a]at this;exact this.symm
 have g:j_ (a*16777216+b*65536) (c*256)=a*16777216+b*65536+c*256:=by have:=r_ (b:=c*256) (i:=16) O (a*256+b);have e:2^16*(a*256+b)=a*16777216+b*65536:=O;rw[e]at this;exact this.symm
 have h3:j_ (a*16777216+b*65536+c*256) d=a*16777216+b*65536+c*256+d:=by have:=r_ (b:=d) (i:=8) O (a*65536+b*256+c);have e:2^8*(a*65536+b*256+c)=a*16777216+b*65536+c*256:=O;rw[e]at this;exact this.symm
 rw[f,g,h3]
def XZ{x m}(hx:lB x)(h:lB (x*m)):b_ (z (z (z (x:Int) 4294967296*(m:Int)) 4294967296) 4294967296)=x*m:=by
 have b:z (x:Int) 4294967296=(x:Int):=m32 hx;rw[b,<-H_];have a:z ((x*m:Nat):Int) 4294967296=((x*m:Nat):Int):=m32 h;rw[a,a];rfl
def Ya{n}(h:lB n):b_ (z (z (d_ n) 4294967296) 4294967296)=n:=by
 rw[m32 h,m32 h];rfl
def UU{a b c d:Nat}(ha:a<256)(l:b<256)(o:c<256)(p:d<256):
  z (d_ (j_ (b_ (z (z (d_ (j_ (b_ (z (z (d_ (j_ (b_ (z (z (z (a:Int) 4294967296*16777216) 4294967296) 4294967296)) (b_ (z (z (z (b:Int) 4294967296*65536) 4294967296) 4294967296)))) 4294967296) 4294967296)) (b_ (z (z (z (c:Int) 4294967296*256) 4294967296) 4294967296)))) 4294967296) 4294967296)) (b_ (z (z (d:Int) 4294967296) 4294967296)))) 4294967296=
   ((a*16777216+b*65536+c*256+d:Nat):Int):=by
 have h:lB (a*16777216):=by show _<_;omega
 have i:lB (b*65536):=by show _<_;omega
 have j:lB (c*256):=by show _<_;omega
 have k:lB d:=by show d<_;omega
 have q:=XZ (m:=16777216) (show lB a by show a<_;omega) h;have r:=XZ (m:=65536) (show lB b by show b<_;omega) i;have s:=XZ (m:=256) (show lB c by show c<_;omega) j;have e4:b_ (z (z (d:Int) 4294967296) 4294967296)=d:=Ya k;have c1:lB (j_ (a*16777216) (b*65536)):=n_ (n:=32) h i;have c2:lB (j_ (j_ (a*16777216) (b*65536)) (c*256)):=n_ (n:=32) c1 j;have c3:lB (j_ (j_ (j_ (a*16777216) (b*65536)) (c*256)) d):=n_ (n:=32) c2 k;have e:b_ (z (z (z (a:Int) 4294967296*16777216) 4294967296) 4294967296)=a*16777216:=q;have f:b_ (z (z (z (b:Int) 4294967296*65536) 4294967296) 4294967296)=b*65536:=r;have g:b_ (z (z (z (c:Int) 4294967296*256) 4294967296) 4294967296)=c*256:=s;rw[e,f,g,e4,Ya c1,Ya c2,m32 c3,UT l o p];rfl
def Qu{W k x y}(h:x=y):an 64 (λj=>bif a_ (j=k)then [c_ .u32 x]else pT W j) (pT λj=>if j=k then y else W j):=by
 intro j _ σ;by_cases e:j=k
 ·simp only[e,decide_true,cond_true,pT,if_true,h];exact⟨⟨rfl,rfl⟩,trivial⟩
 ·simp only[e,decide_false,cond_false,pT,if_false];exact⟨⟨rfl,rfl⟩,trivial⟩
def rB(σ)(W)(j):bj.le σ (pT W j) (pT W j):=⟨⟨rfl,rfl⟩,trivial⟩
def rC(σ)(W)(j):bj.le σ (dh W j) (dh W j):=⟨⟨rfl,rfl⟩,trivial⟩
def tm(b:Nat->Int):Nat->Nat->Int
 |0=>λ_=>0
 |k+1=>T6 (tm b k) k (wx b (4*k))
def sA(W:Nat->Int):Nat->Nat->Int
 |0=>W
 |k+1=>T6 (sA W k) (16+k) (wy (sA W k) (16+k))
def bi(b:Nat->Int):Nat->Int:=sA (tm b 16) 48
def Zx(b:Nat->Int):Prop := ∀i,i<64->0<=b i/\b i<256
def Dg{b}(a:Zx b):∀k,k<=16->∀j,0<=tm b k j/\tm b k j<4294967296
 |0,_,j=>by simp[tm]
 |k+1,hk,j=>by
  simp only[tm,T6];by_cases e:j=k
  ·rw[if_pos e];have c:=a (4*k) O;have d:=a (4*k+1) O;have h3:=a (4*k+2) O;have h4:=a (4*k+3) O;unfold wx;omega
  ·rw[if_neg e];exact Dg a k O j
def Ks{W}(c:∀j,0<=W j/\W j<4294967296):∀k j,0<=sA W k j/\sA W k j<4294967296
 |0,j=>c j
 |k+1,j=>by
  simp only[sA,T6];by_cases e:j=16+k
  ·rw[if_pos e];unfold wy;have:=lB.add (a:=(kE.ey (kE.ey ((sA W k (16+k-16)).toNat) (kE.yL ((sA W k (16+k-15)).toNat))) ((sA W k (16+k-7)).toNat))) (b:=kE.Ic ((sA W k (16+k-2)).toNat));exact⟨v_ _,Int.ofNat_lt.2 this⟩
  ·rw[if_neg e];exact Ks c k j
def Mu{b}(a:Zx b):ay PP II false (az II 163 2001) 13 (BE b (0,λ_=>0)) (BG (tm b 16)):=
 ay.of (ι:=Int×(Nat->Int)) fU [] (aX PP II []) 1000 13 (λi=> ∃k:Nat,k<=16/\i.1=(k:Int)/\i.2=tm b k) (BE b) (λ_=>BG (tm b 16)) (λi=>(16-i.1).toNat) (λi=>(i.1+1,T6 i.2 i.1.toNat (wx b (4*i.1.toNat)))) (0,λ_=>0) A
  ⟨0,O,rfl,rfl⟩ λi hi=>by
  obtain⟨i,W⟩:=i;obtain⟨k,p,n,d⟩:=hi;change i=(k:Int)at n;change W=tm b k at d;have J:∀j,0<=W j/\W j<4294967296:=by rw[d];exact Dg a k p
  refine(Ms b (tm b 16) i W _).mpr (aaz (λh=>?_) λh=>?_)
  ·simp only[bl]at h;have q:k<16:=O;have n0:b_ (4*i)=4*k:=O;have n1:b_ (4*i+1)=4*k+1:=O;have r:b_ (4*i+2)=4*k+2:=O;have s:b_ (4*i+3)=4*k+3:=O;have t:b_ i=k:=O;have R:∀c:Int,0<=c->c<=3->aJ g_ (4*i+c)=true:=λc n d=>ai O O
   have m:aJ g_ (4*i)=true:=ai O O;have D:∀c:Int,0<=c->c<=3->(a_ (0<=4*i+c)&&a_ (4*i+c<64))=true:=λc n d=>by simp;omega
   have u:(a_ (0<=4*i)&&a_ (4*i<64))=true:=by simp;omega
   obtain⟨v,e,w⟩:∃x:Nat,b (4*k)=(x:Int)/\x<256:=⟨(b (4*k)).toNat,by have:=a (4*k) O;omega,by have:=a (4*k) O;omega⟩;obtain⟨y,f,C⟩:∃x:Nat,b (4*k+1)=(x:Int)/\x<256:=⟨(b (4*k+1)).toNat,by have:=a (4*k+1) O;omega,by have:=a (4*k+1) O;omega⟩;obtain⟨E,g,F⟩:∃x:Nat,b (4*k+2)=(x:Int)/\x<256:=⟨(b (4*k+2)).toNat,by have:=a (4*k+2) O;omega,by have:=a (4*k+2) O;omega⟩;obtain⟨G,l,H⟩:∃x:Nat,b (4*k+3)=(x:Int)/\x<256:=⟨(b (4*k+3)).toNat,by have:=a (4*k+3) O;omega,by have:=a (4*k+3) O;omega⟩;have I:wx b (4*k)=((v*16777216+y*65536+E*256+G:Nat):Int):=by unfold wx;rw[e,f,g,l];omega
   have K:(∃o:Nat,o<=16/\i+1=((o:Nat):Int)/\T6 W k (wx b (4*k))=tm b o):=⟨k+1,O,O,by rw[d];rfl⟩;simp only[n0,n1,r,s,t,e,f,g,l]
   repeat' (with_reducible first|exact trivial|rfl|exact aaX λ_ _=>rB _ _ _|exact aaX λ_ _=>rC _ _ _|refine aan ?_ ?_|refine aag ?_ ?_|refine aaY ?_ ?_|refine ZF ?_ ?_|refine l_ ?_ ?_)
   ·exact m
   ·exact u
   ·exact m
   grind
   grind
   ·exact m
   grind
   grind
   ·exact m
   grind
   grind
   ·simp;omega
   ·simp;omega
   ·exact ai O O
   ·exact Qu ((UU w C F H).trans I.symm)
   all_goals omega
  ·simp only[je]at h;have:k=16:=O;subst this;rw[d];exact zT
def Mv{e}(u:∀j,0<=e j/\e j<4294967296):ay PP II false (az II 163 7002) 13 (BF (16,e)) (BH (sA e 48)):=
 ay.of (ι:=Int×(Nat->Int)) fU [vy] (aX PP II []) 1000 13 (λi=> ∃k:Nat,k<=48/\i.1=16+(k:Int)/\i.2=sA e k) BF (λ_=>BH (sA e 48)) (λi=>(64-i.1).toNat) (λi=>(i.1+1,T6 i.2 i.1.toNat (wy i.2 i.1.toNat))) (16,e) A
  ⟨0,O,rfl,rfl⟩ λi hi=>by
  obtain⟨i,W⟩:=i;obtain⟨k,H,l,f⟩:=hi;change i=16+(k:Int)at l;change W=sA e k at f;have g:∀j,0<=W j/\W j<4294967296:=by rw[f];exact Ks u k
  refine(Mt (sA e 48) i W _).mpr (aaz (λh=>?_) λh=>?_)
  ·simp only[bl]at h;have m:b_ (i-15)=16+k-15:=O;have v:b_ (i-2)=16+k-2:=O;have n:b_ (i-16)=16+k-16:=O;have w:b_ (i-7)=16+k-7:=O;have x:b_ i=16+k:=O;obtain⟨a,ha,a'⟩:=Df (g (16+k-16));obtain⟨b,p,q⟩:=Df (g (16+k-15));obtain⟨c,r,y⟩:=Df (g (16+k-7));obtain⟨d,s,t⟩:=Df (g (16+k-2));have C:wy W (16+k)=((kE.ey (kE.ey (kE.ey a (kE.yL b)) c) (kE.Ic d):Nat):Int):=by
    unfold wy;rw[ha,p,r,s];rfl
   have I:(∃o:Nat,o<=48/\i+1=16+((o:Nat):Int)/\T6 W (16+k) (wy W (16+k))=sA e o):=⟨k+1,O,O,by rw[f];rfl⟩;have E:∀c:Int,0<=c->c<=16->aJ g_ (i-c)=true:=λc l f=>ai O O
   have D:∀c:Int,0<=c->c<=16->(a_ (0<=i-c)&&a_ (i-c<64))=true:=λc l f=>by simp;omega
   have L:∀c,a_ (16+k-c<64)=true:=λc=>by simp;omega
   have F:b<4294967296:=q;have G:d<4294967296:=t;simp only[m,v,n,w,x,ha,p,r,s,L,decide_true]
   repeat' (with_reducible first|exact trivial|rfl|exact aaX λ_ _=>rB _ _ _|exact aaX λ_ _=>rC _ _ _|refine aan ?_ ?_|refine aag ?_ ?_|refine aaY ?_ ?_|refine ZF ?_ ?_|refine l_ ?_ ?_)
   simp_all
   grind
   simp_all
   grind
   simp_all
   grind
   ·simp;omega
   simp_all
   grind
   ·simp;omega
   ·simp;omega
   ·simp;omega
   ·exact ai O O
   ·exact Qu ((US a' q y t).trans C.symm)
   all_goals omega
  ·simp only[je]at h;have:k=48:=O;subst this;rw[f];exact zT
def UW:an 64 (bY (z_ 64 (c_ .u32 0)) 1) (pT λ_=>0):=by
 intro i hi σ;have:bY (z_ 64 (c_ .u32 0)) 1 i=[c_ .u32 0]:=by unfold bY;rw[List.drop_replicate,List.take_replicate];have:min 1 (64-i*1)=1:=O;rw[this];rfl
 rw[this];exact⟨⟨rfl,rfl⟩,trivial⟩
def Qv{b}(c:Zx b):af PP II 163 [uj b] (o_ 12) (.ret (.agg (mV (bi b))) (o_ 12)):=by
 refine bQ (ks:=[vy]) (T:=[(2001,13,BE b (0,λ_=>0),BG (tm b 16)),(7002,13,BF (16,tm b 16),BH (bi b))]) (λσ=>?_) ((Qs b (tm b 16) (bi b) _).mpr ?_)
 ·show bj.le σ (mV (bi b)) (mV (bi b));unfold mV;generalize u_ 64=l
  induction l with
  |nil=>trivial
  |cons a l d=>exact⟨⟨rfl,rfl⟩,d⟩
 ·repeat' (with_reducible first|exact trivial|rfl|exact aaX λ_ _=>rB _ _ _|exact aaX λ_ _=>rC _ _ _|refine aan ?_ ?_|refine aag ?_ ?_|refine aaY ?_ ?_|refine ZF ?_ ?_|refine l_ ?_ ?_)
  ·exact Mu c
  ·exact UW
  ·exact Mv (Dg c 16 O)
  ·rfl
def ke(n:Nat)(f:Nat->List AV):Bool:=(u_ n).all λi=>match f i with|[.int .u8 x]=>a_ (0<=x)&&a_ (x<256)|_=>false
def byteOf(f:Nat->List AV)(i:Nat):Int:=match f i with|[.int .u8 x]=>x|_=>0
def pU{n f}(h:ke n f=true){i}(hi:i<n):f i=[.int .u8 (byteOf f i)]/\0<=byteOf f i/\byteOf f i<256:=by
 have:=List.all_eq_true.1 h i (List.mem_range.2 hi);unfold byteOf
 grind
def Qw:ax PP II:=ax.pure 163
 (λX args a=>match args with
  |[.ae 64 1 f]=>X.ag (ke 64 f) (a (.agg (mV (bi (byteOf f)))))
  |_=>X.fail)
 λX sem hX args a h=>by
  split at h
  ·rename_i f;obtain⟨b,c⟩:=hX.ag _ _ h;refine⟨_,c,λσ=>?_,λ_=>rfl,(Qv λi hi=>(pU b hi).2).cS ⟨⟨rfl,rfl,λi hi=>?_⟩,trivial⟩⟩;rfl
   ·rw[(pU b hi).1];exact⟨⟨rfl,rfl⟩,trivial⟩
  ·exact zR
def af.Yb{P I f args args' a a' b H0 H l}(h:af P I f args H0 (.ret a (H0.set I.G b)))
  (C:H0.n=I.G+1) (o:∀i,I.G+1<=i->H0.get i= .dead) (s:∀i,i<I.G->H0.get i≠ .dead->H.get i=H0.get i/\∀σ,(H0.get i).bx σ=H0.get i)
  (hG:I.G<=l) (hl:l<H.n) (J:H.get l=H0.get I.G)
  (K:∀σ,(H0.get I.G).bx σ=H0.get I.G) (D:∀σ,b.bx σ=b) (h3:∀σ,σ I.G=l->bj.bx σ args=args') (h4:∀σ,σ I.G=l->a.bx σ=a') (L:H0.get I.G≠ .dead):af P I f args' H (.ret a' (H.set l b)):=by
 intro c ρ w vs t E v
 let σ:Nat->Nat:=λi=>if i<I.G then i else if i=I.G then l else H.n+(i-(I.G+1))
 have d:σ I.G=l:=by simp[σ]
 have y:∀i,i<I.G->σ i=i:=λi hi=>Y
 have q:∀i,I.G+1<=i->σ i=H.n+(i-(I.G+1)):=λi hi=>by
  grind
 have m:∀i,H0.get i≠ .dead->i<I.G+1:=Y;have F:Sub I.G σ H0 H :=
  {lt:=λi hi=>by
    grind
   ge:=by simp_all
   same:=Y
   inj:=λi j hi N e=>by
    grind
   eZ:=λg Q=>Y
   low:=(by simp_all)}
 have ht:EE σ H0 (CO.ret a (H0.set I.G b)).heap H (H.set l b):=
  {n:=by show H.n=H.n+(H0.n-H0.n);omega
   old:=λi hi=>by
    show(H.set l b).get (σ i)=((H0.set I.G b).get i).bx σ;have u:=m i hi;by_cases e:i=I.G
    ·rw[e,d,J_,J_,D]
    ·have u:i<I.G:=by omega
     have g1:(H.set l b).get i=H.get i:=M_ _ _ O;have g2:(H0.set I.G b).get i=H0.get i:=M_ _ _ O
     grind
   new:=λi hi=>by rw[C]at hi;show(H.set l b).get (σ i)=((H0.set I.G b).get i).bx σ;have g1:(H.set l b).get (H.n+(i-(I.G+1)))=H.get (H.n+(i-(I.G+1))):=M_ _ _ O;have g2:(H0.set I.G b).get i=H0.get i:=M_ _ _ O;rw[g2,o i hi,q i hi,g1,v.low _ O];rfl
   rest:=λi hi R=>by
    have:i≠l:=λe=>by
     grind
    exact M_ _ _ O}
 have:=h.lift F ht;rw[h3 σ d]at this;have e:(CO.ret a (H0.set I.G b)).jt σ (H.set l b)= .ret a' (H.set l b):=by show CO.ret (a.bx σ) (H.set l b)=_;rw[h4 σ d]
 rw[e]at this;exact this c ρ w vs t E v
def af.of_heap{P I}(hI:I.Ok P)(ks:List (ax P I)){c}(b:gv P I id c)(fuel){f args a' H H'}
  (h:ka ks c fuel f args H (λa H1=>qn H.n a H1 a' H' True) (λ_ _=>False)):af P I f args H (.ret a' H'):=by
 obtain⟨o,d,i⟩:=iJ hI ks b fuel f args _ _ _ h;cases o with
 |ret a H1=>exact i.le (qn.ok d).1
 |rL a H1=>exact d.elim
def rY:List AV->List AV->Bool
 |[],[]=>true
 | .int k i::l,.int a j::m=>a_ (k=a)&&a_ (i=j)&&rY l m
 |_,_=>false
def tn:∀(l m),rY l m=true->l=m
 |[],[],_=>rfl
 |[],_::_,h=>by simp[rY]at h
 | .int k i::l,.int a j::m,h=>by simp only[rY,ba,bl]at h;rw[h.1.1,h.1.2,tn l m h.2]
def yN(cs:List AV):aae->Bool
 | .cells ds .ro=>rY ds cs
 |_=>false
def kK{cs b}(h:yN cs b=true):b= .cells cs .ro:=by
 unfold yN at h;split at h
 ·rw[tn _ _ h]
 ·cases h
def af.Qx{P I f args a H0 H}(h:af P I f args H0 (.ret a H0))(u:H0.n=I.G)(d:∀i,I.G<=i->H0.get i= .dead)
  (m:∀i,i<I.G->H0.get i≠ .dead->H.get i=H0.get i/\∀σ,(H0.get i).bx σ=H0.get i) (b:∀σ,bj.bx σ args=args) (ha:∀σ,a.bx σ=a):
  af P I f args H (.ret a H):=by
 intro c ρ w vs hG v j;have y:I.G<=H.n:=by
  rw[<-hG];refine Nat.le_of_not_lt λo=>?_
  obtain⟨N,s⟩:=j.eZ H.n o;rw[j.top _ (dP _)]at s;cases s
 let σ:Nat->Nat:=λl=>if l<I.G then l else H.n+(l-I.G)
 have t:∀i,i<I.G->σ i=i:=λi hi=>Y
 have q:∀i,H0.get i≠ .dead->i<I.G:=Y;have C:Sub I.G σ H0 H :=
  {lt:=λl hl=>by grind
   ge:=λl hl=>by
    grind
   same:=Y
   inj:=Y
   eZ:=by simp_all
   low:=(by simp_all)}
 have ht:EE σ H0 (CO.ret a H0).heap H H :=
  {n:=by show H.n=H.n+(H0.n-H0.n);omega
   old:=λl hl=>by
    show H.get (σ l)=(H0.get l).bx σ
    grind
   new:=λl hl=>by rw[u]at hl;have :¬ l<I.G:=Nat.not_lt.2 hl;show H.get (σ l)=(H0.get l).bx σ;rw[d l hl];simp only[σ,if_neg this];rw[j.low _ O];rfl
   rest:=λ_ _ _=>rfl}
 have:=h.lift C ht;rw[b]at this;have e:(CO.ret a H0).jt σ H= .ret a H:=by show CO.ret (a.bx σ) H=_;rw[ha]
 rw[e]at this;exact this c ρ w vs hG v j
def bG:List AV:=kE.vx.map λn=> .int .u32 (d_ n)
def oM(v:Nat->Int):List AV:=[.int .u32 (v 0),.int .u32 (v 1),.int .u32 (v 2),.int .u32 (v 3),.int .u32 (v 4),.int .u32 (v 5),.int .u32 (v 6),.int .u32 (v 7)]
def hAdd(v:Nat->Int):AH:={n:=13,t:=h_ [(2,.cells bG .ro),(12,.cells (oM v) (.ty 204))]}
def abe(W v u:Nat->Int):AH:={n:=15,t:=h_ [(2,.cells bG .ro),(12,.cells (oM v) (.ty 204)),(13,.rows 64 1 (pT W) (.ty 236)),(14,.cells (oM u) (.ty 204))]}
def Mw(W v:Nat->Int)(i:Int×(Nat->Int)):St:={t:=h_ [(0,.ptr 12 0 0 0),(4,.ptr 13 0 0 0),(5,.ptr 14 0 0 0),(18,.agg bG),(19,.int g_ i.1)],nt:=97,H:=abe W v i.2,df:=[]}
def Mx(v u:Nat->Int):GE:=.one (.x 0 {t:=h_ [(0,.ptr 12 0 0 0),(5,.ptr 14 0 0 0)],nt:=97,H:={n:=15,t:=h_ [(2,.cells bG .ro),(12,.cells (oM v) (.ty 204)),(14,.cells (oM u) (.ty 204))]},df:=[]})
def yO(i:Nat):Int:=ff bG i
def Zy(k w:Int)(u:Nat->Int):Int:=z (z (z (z (u (7:Nat)+d_ (EZ (b_ (u (4:Nat))) (6:Nat) (11:Nat) (25:Nat))) (4294967296:Int)+z (d_ (i_ (b_ (z (z (d_ (k_ (b_ (z (u (4:Nat)) (4294967296:Int))) (b_ (z (u (5:Nat)) (4294967296:Int))))) (4294967296:Int)) (4294967296:Int))) (b_ (z (z (d_ (k_ (b_ (z (z (d_ (i_ (4294967295:Nat) (b_ (z (u (4:Nat)) (4294967296:Int))))) (4294967296:Int)) (4294967296:Int))) (b_ (z (u (6:Nat)) (4294967296:Int))))) (4294967296:Int)) (4294967296:Int))))) (4294967296:Int)) (4294967296:Int)+k) (4294967296:Int)+w) (4294967296:Int)
def t2I(u:Nat->Int):Int:=z (d_ (EZ (b_ (u (0:Nat))) (2:Nat) (13:Nat) (22:Nat))+z (d_ (i_ (b_ (z (z (d_ (i_ (b_ (z (z (d_ (k_ (b_ (z (u (0:Nat)) (4294967296:Int))) (b_ (z (u (1:Nat)) (4294967296:Int))))) (4294967296:Int)) (4294967296:Int))) (b_ (z (z (d_ (k_ (b_ (z (u (0:Nat)) (4294967296:Int))) (b_ (z (u (2:Nat)) (4294967296:Int))))) (4294967296:Int)) (4294967296:Int))))) (4294967296:Int)) (4294967296:Int))) (b_ (z (z (d_ (k_ (b_ (z (u (1:Nat)) (4294967296:Int))) (b_ (z (u (2:Nat)) (4294967296:Int))))) (4294967296:Int)) (4294967296:Int))))) (4294967296:Int)) (4294967296:Int)
def vz(k w:Int)(u:Nat->Int)(j:Nat):Int:=match j with
 |0=>z (Zy k w u+t2I u) 4294967296
 |1=>u 0
 |2=>u 1
 |3=>u 2
 |4=>z (u 3+Zy k w u) 4294967296
 |5=>u 4
 |6=>u 5
 |7=>u 6
 |_=>0
def qN(W v:Nat->Int):Nat->Nat->Int
 |0=>v
 |k+1=>vz (yO k) (W k) (qN W v k)
def jX(b v:Nat->Int)(j:Nat):Int:=z (v j+qN (bi b) v 64 j) 4294967296
def Kt(v:Nat->Int):Prop := ∀j,j<8->0<=v j/\v j<4294967296
def Qy(W v b)(a:Int->(Nat->Int)->(Nat->Int))(i)(u)(Q):(kr [vy] [] 120 3001 15 (Mw W v) (λ_=>Mx v b) (λi=>(i.1+1,a i.1 i.2)) Q (i,u))=(let c:=(z (z (z (u 7+d_ (EZ (b_ (u 4)) 6 11 25)) 4294967296+z (d_ (i_ (b_ (z (z (d_ (k_ (b_ (z (u 4) 4294967296)) (b_ (z (u 5) 4294967296)))) 4294967296) 4294967296)) (b_ (z (z (d_ (k_ (b_ (z (z (d_ (i_ 4294967295 (b_ (z (u 4) 4294967296)))) 4294967296) 4294967296)) (b_ (z (u 6) 4294967296)))) 4294967296) 4294967296)))) 4294967296) 4294967296+ff bG i.toNat) 4294967296+W i.toNat);(ak (a_ (i<64)) (B (a_ (0<=i)&&a_ (i<64)) (B (a_ (0<=u 4)&&a_ (u 4<4294967296)&&true&&true&&true) (B (a_ (u 7=u 7)) (B (a_ (u 5=u 5)) (B (a_ (u 6=u 6)) (B (a_ (0<=i)&&a_ (i<64)) (B (a_ (i.toNat<64)) (B (a_ (i.toNat<64)) (B (a_ (W i.toNat=W i.toNat)) (B (a_ (0<=u 0)&&a_ (u 0<4294967296)&&true&&true&&true) (B (a_ (u 1=u 1)) (B (a_ (u 2=u 2)) (B (a_ (u 1=u 1)) (B (a_ (u 2=u 2)) (B (aJ g_ (i+1)) (aS (z (z c 4294967296+z (d_ (EZ (b_ (u 0)) 2 13 22)+z (d_ (i_ (b_ (z (z (d_ (i_ (b_ (z (z (d_ (k_ (b_ (z (u 0) 4294967296)) (b_ (z (u 1) 4294967296)))) 4294967296) 4294967296)) (b_ (z (z (d_ (k_ (b_ (z (u 0) 4294967296)) (b_ (z (u 2) 4294967296)))) 4294967296) 4294967296)))) 4294967296) 4294967296)) (b_ (z (z (d_ (k_ (b_ (z (u 1) 4294967296)) (b_ (z (u 2) 4294967296)))) 4294967296) 4294967296)))) 4294967296) 4294967296) 4294967296) (a i u 0) (aS (u 0) (a i u 1) (aS (u 1) (a i u 2) (aS (u 2) (a i u 3) (aS (z (u 3+z c 4294967296) 4294967296) (a i u 4) (aS (u 4) (a i u 5) (aS (u 5) (a i u 6) (aS (u 6) (a i u 7) (zyR 64 (pT W) (zyI (v 0) (zyI (v 1) (zyI (v 2) (zyI (v 3) (zyI (v 4) (zyI (v 5) (zyI (v 6) (zyI (v 7) (zyI (i+1) Q))))))))))))))))))))))))))))))))) (aS (u 0) (b 0) (aS (u 1) (b 1) (aS (u 2) (b 2) (aS (u 3) (b 3) (aS (u 4) (b 4) (aS (u 5) (b 5) (aS (u 6) (b 6) (aS (u 7) (b 7) (zyI (v 0) (zyI (v 1) (zyI (v 2) (zyI (v 3) (zyI (v 4) (zyI (v 5) (zyI (v 6) (zyI (v 7) True)))))))))))))))))):=U
def Yc(b v c d)(Q):(ka [Qw] (mO PP II [(3001,15,Mw (bi b) v (0,v),Mx v c)]) 1000 120 [.ptr 12 0 0 0,uj b] (hAdd v) (λa H=>qn 13 a H (.bM []) (hAdd d) Q) (λ_ _=>False))=(B (ke 64 (dh b)) (ay PP II false (az II 120 3001) 15 (Mw (bi b) v (0,v)) (Mx v c)/\zyI (v 0) (zyI (v 1) (zyI (v 2) (zyI (v 3) (zyI (v 4) (zyI (v 5) (zyI (v 6) (zyI (v 7) ((an 64 (bY [c_ .u32 (bi (byteOf (dh b)) 0),c_ .u32 (bi (byteOf (dh b)) 1),c_ .u32 (bi (byteOf (dh b)) 2),c_ .u32 (bi (byteOf (dh b)) 3),c_ .u32 (bi (byteOf (dh b)) 4),c_ .u32 (bi (byteOf (dh b)) 5),c_ .u32 (bi (byteOf (dh b)) 6),c_ .u32 (bi (byteOf (dh b)) 7),c_ .u32 (bi (byteOf (dh b)) 8),c_ .u32 (bi (byteOf (dh b)) 9),c_ .u32 (bi (byteOf (dh b)) 10),c_ .u32 (bi (byteOf (dh b)) 11),c_ .u32 (bi (byteOf (dh b)) 12),c_ .u32 (bi (byteOf (dh b)) 13),c_ .u32 (bi (byteOf (dh b)) 14),c_ .u32 (bi (byteOf (dh b)) 15),c_ .u32 (bi (byteOf (dh b)) 16),c_ .u32 (bi (byteOf (dh b)) 17),c_ .u32 (bi (byteOf (dh b)) 18),c_ .u32 (bi (byteOf (dh b)) 19),c_ .u32 (bi (byteOf (dh b)) 20),c_ .u32 (bi (byteOf (dh b)) 21),c_ .u32 (bi (byteOf (dh b)) 22),c_ .u32 (bi (byteOf (dh b)) 23),c_ .u32 (bi (byteOf (dh b)) 24),c_ .u32 (bi (byteOf (dh b)) 25),c_ .u32 (bi (byteOf (dh b)) 26),c_ .u32 (bi (byteOf (dh b)) 27),c_ .u32 (bi (byteOf (dh b)) 28),c_ .u32 (bi (byteOf (dh b)) 29),c_ .u32 (bi (byteOf (dh b)) 30),c_ .u32 (bi (byteOf (dh b)) 31),c_ .u32 (bi (byteOf (dh b)) 32),c_ .u32 (bi (byteOf (dh b)) 33),c_ .u32 (bi (byteOf (dh b)) 34),c_ .u32 (bi (byteOf (dh b)) 35),c_ .u32 (bi (byteOf (dh b)) 36),c_ .u32 (bi (byteOf (dh b)) 37),c_ .u32 (bi (byteOf (dh b)) 38),c_ .u32 (bi (byteOf (dh b)) 39),c_ .u32 (bi (byteOf (dh b)) 40),c_ .u32 (bi (byteOf (dh b)) 41),c_ .u32 (bi (byteOf (dh b)) 42),c_ .u32 (bi (byteOf (dh b)) 43),c_ .u32 (bi (byteOf (dh b)) 44),c_ .u32 (bi (byteOf (dh b)) 45),c_ .u32 (bi (byteOf (dh b)) 46),c_ .u32 (bi (byteOf (dh b)) 47),c_ .u32 (bi (byteOf (dh b)) 48),c_ .u32 (bi (byteOf (dh b)) 49),c_ .u32 (bi (byteOf (dh b)) 50),c_ .u32 (bi (byteOf (dh b)) 51),c_ .u32 (bi (byteOf (dh b)) 52),c_ .u32 (bi (byteOf (dh b)) 53),c_ .u32 (bi (byteOf (dh b)) 54),c_ .u32 (bi (byteOf (dh b)) 55),c_ .u32 (bi (byteOf (dh b)) 56),c_ .u32 (bi (byteOf (dh b)) 57),c_ .u32 (bi (byteOf (dh b)) 58),c_ .u32 (bi (byteOf (dh b)) 59),c_ .u32 (bi (byteOf (dh b)) 60),c_ .u32 (bi (byteOf (dh b)) 61),c_ .u32 (bi (byteOf (dh b)) 62),c_ .u32 (bi (byteOf (dh b)) 63)] 1) λj=>[c_ .u32 (bi b j)])/\zyI (v 0) (zyI (v 1) (zyI (v 2) (zyI (v 3) (zyI (v 4) (zyI (v 5) (zyI (v 6) (zyI (v 7) (B (aJ g_ 1) (B (aJ g_ 2) (B (aJ g_ 3) (B (aJ g_ 4) (B (aJ g_ 5) (B (aJ g_ 6) (B (aJ g_ 7) (B (aJ g_ 8) (aS (z (v 0+c 0) 4294967296) (d 0) (aS (z (v 1+c 1) 4294967296) (d 1) (aS (z (v 2+c 2) 4294967296) (d 2) (aS (z (v 3+c 3) 4294967296) (d 3) (aS (z (v 4+c 4) 4294967296) (d 4) (aS (z (v 5+c 5) 4294967296) (d 5) (aS (z (v 6+c 6) 4294967296) (d 6) (aS (z (v 7+c 7) 4294967296) (d 7) Q))))))))))))))))))))))))))))))))):=U
def Qz(x:Int):0<=z x 4294967296/\z x 4294967296<4294967296 :=
 ⟨I_ _ zC,C_ _ zC⟩
def Yd{k w u}(h:Kt u):Kt (vz k w u):=by
 intro j a
 match j,a with
 |0,_=>exact Qz _
 |1,_=>exact h 0 O
 |2,_=>exact h 1 O
 |3,_=>exact h 2 O
 |4,_=>exact Qz _
 |5,_=>exact h 4 O
 |6,_=>exact h 5 O
 |7,_=>exact h 6 O
 |k+8,hk=>omega
def Ku{W v}(h:Kt v):∀k,Kt (qN W v k)
 |0=>h
 |k+1=>Yd (Ku h k)
def Ye{b v}:Kt (jX b v):=λ_ _=>Qz _
def abg(k w)(u):vz k w u 0=z (Zy k w u+t2I u) 4294967296:=rfl
def abh(k w)(u):vz k w u 4=z (u 3+Zy k w u) 4294967296:=rfl
def abi(k w)(u):vz k w u 1=u 0:=rfl
def abj(k w)(u):vz k w u 2=u 1:=rfl
def abk(k w)(u):vz k w u 3=u 2:=rfl
def abl(k w)(u):vz k w u 5=u 4:=rfl
def abm(k w)(u):vz k w u 6=u 5:=rfl
def abn(k w)(u):vz k w u 7=u 6:=rfl
def Yf(b v)(j):z (v j+qN (bi b) v 64 j) 4294967296=jX b v j:=rfl
def QA{x:Int}(h:0<=x/\x<4294967296):(a_ (0<=x)&&a_ (x<4294967296)&&true&&true&&true)=true:=by
 simp only[Bool.and_true,ba,bl];exact h
def QB{W v}(f:Kt v):ay PP II false (az II 120 3001) 15 (Mw W v (0,v)) (Mx v (qN W v 64)):=
 ay.of (ι:=Int×(Nat->Int)) fU [vy] (aX PP II []) 1000 15 (λi=> ∃k:Nat,k<=64/\i.1=(k:Int)/\i.2=qN W v k) (Mw W v) (λ_=>Mx v (qN W v 64)) (λi=>(64-i.1).toNat) (λi=>(i.1+1,vz (yO i.1.toNat) (W i.1.toNat) i.2)) (0,v) A
  ⟨0,O,rfl,rfl⟩ λi hi=>by
  obtain⟨i,u⟩:=i;obtain⟨k,p,g,c⟩:=hi;change i=(k:Int)at g;change u=qN W v k at c;have e:Kt u:=by rw[c];exact Ku f k
  refine(Qy W v (qN W v 64) (λi u=>vz (yO i.toNat) (W i.toNat) u) i u _).mpr (aaz (λh=>?_) λh=>?_)
  ·simp only[bl]at h;have j:k<64:=O;have l:b_ i=k:=O;have m:=QA (e 0 O);have n:=QA (e 4 O);have d:(a_ ((0:Int)<=i)&&a_ (i<(64:Int)))=true:=by simp only[ba,bl];omega
   have b:a_ (b_ i<64)=true:=by simp only[bl];omega
   have o:aJ g_ (i+1)=true:=ai O O;have a:∀x:Int,a_ (x=x)=true:=λx=>bK A
   repeat' (with_reducible first|exact trivial|rfl|exact aaX λ_ _=>rB _ _ _|exact aaX λ_ _=>rC _ _ _|refine aan ?_ ?_|refine aag ?_ ?_|refine aaY ?_ ?_|refine ZF ?_ ?_|refine l_ ?_ ?_)
   all_goals first|with_reducible exact d|with_reducible exact b|with_reducible exact m|with_reducible exact n|with_reducible exact a _|with_reducible exact o|(rw[abg,Zy,t2I,yO];done)|(rw[abh,Zy,yO];done)|with_reducible exact(abi _ _ _).symm|with_reducible exact(abj _ _ _).symm|with_reducible exact(abk _ _ _).symm|with_reducible exact(abl _ _ _).symm|with_reducible exact(abm _ _ _).symm|with_reducible exact(abn _ _ _).symm|skip
   ·refine⟨k+1,O,by show i+1=_;omega,?_⟩;show vz _ _ u=_;rw[l,c];rfl
   ·show(64-(i+1)).toNat<(64-i).toNat;omega
  ·simp only[je]at h;have:k=64:=O;subst this;rw[c];exact zT
def abo(W):an 64 (bY (mV W) 1) (pT W):=by
 intro i hi σ;have:bY (mV W) 1 i=[c_ .u32 (W i)]:=by
  unfold bY mV;rw[Nat.mul_one,<-List.map_drop,<-List.map_take];have:((u_ 64).drop i).take 1=[i]:=by rw[List.drop_eq_getElem_cons (by simpa using hi)];simp
  rw[this];rfl
 rw[this];exact⟨⟨rfl,rfl⟩,trivial⟩
def Ie{b}(h:Zx b):ke 64 (dh b)=true:=List.all_eq_true.2 λi hi=>by
 have:=h i (List.mem_range.1 hi);show(decide _&&decide _)=true;simp only[ba,bl];exact this
def Yg{b v}(a:Zx b)(c:Kt v):af PP II 120 [.ptr 12 0 0 0,uj b] (hAdd v) (.ret (.bM []) (hAdd (jX b v))):=by
 refine af.of_heap fU [Qw] (aX PP II [(3001,15,Mw (bi b) v (0,v),Mx v (qN (bi b) v 64))]) 1000 ((Yc b v (qN (bi b) v 64) (jX b v) True).mpr ?_)
 repeat' (with_reducible first|exact trivial|rfl|exact aaX λ_ _=>rB _ _ _|exact aaX λ_ _=>rC _ _ _|refine aan ?_ ?_|refine aag ?_ ?_|refine aaY ?_ ?_|refine ZF ?_ ?_|refine l_ ?_ ?_)
 all_goals first|with_reducible exact Ie a|with_reducible exact QB c|with_reducible exact Yf _ _ _|exact ai O O|exact abo (bi b)
def eV(x:Int)(m:Int):UInt8:=f_ (b_ (z (e_ x m) 256))
def Dh(v:Nat->Int):List UInt8:=[eV (v 0) 16777216,eV (v 0) 65536,eV (v 0) 256,eV (v 0) 1,eV (v 1) 16777216,eV (v 1) 65536,eV (v 1) 256,eV (v 1) 1,eV (v 2) 16777216,eV (v 2) 65536,eV (v 2) 256,eV (v 2) 1,eV (v 3) 16777216,eV (v 3) 65536,eV (v 3) 256,eV (v 3) 1,eV (v 4) 16777216,eV (v 4) 65536,eV (v 4) 256,eV (v 4) 1,eV (v 5) 16777216,eV (v 5) 65536,eV (v 5) 256,eV (v 5) 1,eV (v 6) 16777216,eV (v 6) 65536,eV (v 6) 256,eV (v 6) 1,eV (v 7) 16777216,eV (v 7) 65536,eV (v 7) 256,eV (v 7) 1]
def Yh(v)(Q):(kb [] [] 121 [.agg (oM v)] Q)=(B (a_ (0<=z (e_ (v 0) 16777216) 256)&&a_ (z (e_ (v 0) 16777216) 256<=255)&&(a_ (0<=z (e_ (v 0) 65536) 256)&&a_ (z (e_ (v 0) 65536) 256<=255)&&(a_ (0<=z (e_ (v 0) 256) 256)&&a_ (z (e_ (v 0) 256) 256<=255)&&(a_ (0<=z (e_ (v 0) 1) 256)&&a_ (z (e_ (v 0) 1) 256<=255)&&(a_ (0<=z (e_ (v 1) 16777216) 256)&&a_ (z (e_ (v 1) 16777216) 256<=255)&&(a_ (0<=z (e_ (v 1) 65536) 256)&&a_ (z (e_ (v 1) 65536) 256<=255)&&(a_ (0<=z (e_ (v 1) 256) 256)&&a_ (z (e_ (v 1) 256) 256<=255)&&(a_ (0<=z (e_ (v 1) 1) 256)&&a_ (z (e_ (v 1) 1) 256<=255)&&(a_ (0<=z (e_ (v 2) 16777216) 256)&&a_ (z (e_ (v 2) 16777216) 256<=255)&&(a_ (0<=z (e_ (v 2) 65536) 256)&&a_ (z (e_ (v 2) 65536) 256<=255)&&(a_ (0<=z (e_ (v 2) 256) 256)&&a_ (z (e_ (v 2) 256) 256<=255)&&(a_ (0<=z (e_ (v 2) 1) 256)&&a_ (z (e_ (v 2) 1) 256<=255)&&(a_ (0<=z (e_ (v 3) 16777216) 256)&&a_ (z (e_ (v 3) 16777216) 256<=255)&&(a_ (0<=z (e_ (v 3) 65536) 256)&&a_ (z (e_ (v 3) 65536) 256<=255)&&(a_ (0<=z (e_ (v 3) 256) 256)&&a_ (z (e_ (v 3) 256) 256<=255)&&(a_ (0<=z (e_ (v 3) 1) 256)&&a_ (z (e_ (v 3) 1) 256<=255)&&(a_ (0<=z (e_ (v 4) 16777216) 256)&&a_ (z (e_ (v 4) 16777216) 256<=255)&&(a_ (0<=z (e_ (v 4) 65536) 256)&&a_ (z (e_ (v 4) 65536) 256<=255)&&(a_ (0<=z (e_ (v 4) 256) 256)&&a_ (z (e_ (v 4) 256) 256<=255)&&(a_ (0<=z (e_ (v 4) 1) 256)&&a_ (z (e_ (v 4) 1) 256<=255)&&(a_ (0<=z (e_ (v 5) 16777216) 256)&&a_ (z (e_ (v 5) 16777216) 256<=255)&&(a_ (0<=z (e_ (v 5) 65536) 256)&&a_ (z (e_ (v 5) 65536) 256<=255)&&(a_ (0<=z (e_ (v 5) 256) 256)&&a_ (z (e_ (v 5) 256) 256<=255)&&(a_ (0<=z (e_ (v 5) 1) 256)&&a_ (z (e_ (v 5) 1) 256<=255)&&(a_ (0<=z (e_ (v 6) 16777216) 256)&&a_ (z (e_ (v 6) 16777216) 256<=255)&&(a_ (0<=z (e_ (v 6) 65536) 256)&&a_ (z (e_ (v 6) 65536) 256<=255)&&(a_ (0<=z (e_ (v 6) 256) 256)&&a_ (z (e_ (v 6) 256) 256<=255)&&(a_ (0<=z (e_ (v 6) 1) 256)&&a_ (z (e_ (v 6) 1) 256<=255)&&(a_ (0<=z (e_ (v 7) 16777216) 256)&&a_ (z (e_ (v 7) 16777216) 256<=255)&&(a_ (0<=z (e_ (v 7) 65536) 256)&&a_ (z (e_ (v 7) 65536) 256<=255)&&(a_ (0<=z (e_ (v 7) 256) 256)&&a_ (z (e_ (v 7) 256) 256<=255)&&(a_ (0<=z (e_ (v 7) 1) 256)&&a_ (z (e_ (v 7) 1) 256<=255)&&true)))))))))))))))))))))))))))))))&&true) (Q (F_ [f_ (b_ (z (e_ (v 0) 16777216) 256)),f_ (b_ (z (e_ (v 0) 65536) 256)),f_ (b_ (z (e_ (v 0) 256) 256)),f_ (b_ (z (e_ (v 0) 1) 256)),f_ (b_ (z (e_ (v 1) 16777216) 256)),f_ (b_ (z (e_ (v 1) 65536) 256)),f_ (b_ (z (e_ (v 1) 256) 256)),f_ (b_ (z (e_ (v 1) 1) 256)),f_ (b_ (z (e_ (v 2) 16777216) 256)),f_ (b_ (z (e_ (v 2) 65536) 256)),f_ (b_ (z (e_ (v 2) 256) 256)),f_ (b_ (z (e_ (v 2) 1) 256)),f_ (b_ (z (e_ (v 3) 16777216) 256)),f_ (b_ (z (e_ (v 3) 65536) 256)),f_ (b_ (z (e_ (v 3) 256) 256)),f_ (b_ (z (e_ (v 3) 1) 256)),f_ (b_ (z (e_ (v 4) 16777216) 256)),f_ (b_ (z (e_ (v 4) 65536) 256)),f_ (b_ (z (e_ (v 4) 256) 256)),f_ (b_ (z (e_ (v 4) 1) 256)),f_ (b_ (z (e_ (v 5) 16777216) 256)),f_ (b_ (z (e_ (v 5) 65536) 256)),f_ (b_ (z (e_ (v 5) 256) 256)),f_ (b_ (z (e_ (v 5) 1) 256)),f_ (b_ (z (e_ (v 6) 16777216) 256)),f_ (b_ (z (e_ (v 6) 65536) 256)),f_ (b_ (z (e_ (v 6) 256) 256)),f_ (b_ (z (e_ (v 6) 1) 256)),f_ (b_ (z (e_ (v 7) 16777216) 256)),f_ (b_ (z (e_ (v 7) 65536) 256)),f_ (b_ (z (e_ (v 7) 256) 256)),f_ (b_ (z (e_ (v 7) 1) 256))]))):=U
def Kv(x:Int):(a_ (0<=z x 256)&&a_ (z x 256<=255))=true:=by
 have a:0<=z x 256:=I_ _ zC;have b:z x 256<256:=C_ _ zC
 grind
def Yi(v):af PP II 121 [.agg (oM v)] (o_ 12) (.ret (.str (Dh v)) (o_ 12)):=by
 refine bQ (ks:=[]) (T:=[]) (λ_=>rfl) ((Yh v _).mpr (ZF ?_ ?_))
 ·simp only[Kv,Bool.and_true,Bool.true_and,Bool.and_self]
 ·rfl
def nT(cs:List AV):Bool:=match cs with
 |[.int .u32 a,.int .u32 b,.int .u32 c,.int .u32 d,.int .u32 e,.int .u32 f,.int .u32 g,.int .u32 h]=>
  [a,b,c,d,e,f,g,h].all λx=>a_ (0<=x)&&a_ (x<4294967296)
 |_=>false
def yP{cs}(h:nT cs=true):cs=oM (ff cs)/\Kt (ff cs):=by
 unfold nT at h;split at h
 ·rename_i a b c d e f g i;refine⟨rfl,λj l=>?_⟩;have q:∀x∈[a,b,c,d,e,f,g,i],0<=x/\x<4294967296:=by simp_all
  match j,l with
  |0,_=>exact q a zA
  |1,_=>exact q b zA
  |2,_=>exact q c zA
  |3,_=>exact q d zA
  |4,_=>exact q e zA
  |5,_=>exact q f zA
  |6,_=>exact q g zA
  |7,_=>exact q i zA
  |k+8,hk=>omega
 ·cases h
def aaa:ax PP II:=ax.pure 121
 (λX args a=>match args with
  |[.agg cs]=>X.ag (nT cs) (a (.str (Dh (ff cs))))
  |_=>X.fail)
 λX sem hX args a h=>by
  split at h
  ·rename_i cs;obtain⟨b,c⟩:=hX.ag _ _ h;obtain⟨e,_⟩:=yP b;refine⟨_,c,λσ=>rfl,λσ=>?_,?_⟩
   ·rw[e];rfl
   ·rw[e];exact Yi _
  ·exact zR
def af.Yj{P:Program}{I:bg}{f:FuncId}{p x d:AV}{H H':AH}{o:CO}(l:kc x H d H')(h:af P I f [p,d] H' o):af P I f [p,x] H o:=by
 intro c ρ w vs hG t m;obtain⟨u,us,rfl,g1,g2⟩:=(by assumption:∃u us,vs=u::us/\VR ρ p u/\aV ρ [x] us);obtain⟨a,zs,rfl,g3,g4⟩:=(by assumption:∃a zs,us=a::zs/\VR ρ x a/\aV ρ [] zs);obtain⟨b,j,q,h3⟩:=l.2 c ρ w a m g3;have post:∀e w',o.post c b e w'->o.post c ρ e w':=λe w' s=>CO.gZ j s
 have i:aV b [p,d] (u::a::zs):=aV.aM.2 ⟨VR.ext j _ _ g1,aV.aM.2 ⟨VR.ext (Ext.rD b) _ _ h3,zI⟩⟩;rcases h c b w _ hG i q with⟨k1,k2⟩|⟨v,w',k1,k2⟩
 ·exact .inl ⟨k1,k2.mono post⟩
 grind
def UX{H l b v}(hG:12<=l)(hl:l<H.n)(m:H.get 2= .cells bG .ro)(o:H.get l= .cells (oM v) (.ty 204))(d:Zx b)(f:Kt v):
  af PP II 120 [.ptr l 0 0 0,uj b] H (.ret (.bM []) (H.set l (.cells (oM (jX b v)) (.ty 204)))):=by
 have p:∀σ,(aae.cells bG .ro).bx σ= .cells bG .ro:=λσ=>by rfl
 have g2:∀v,(hAdd v).get 2= .cells bG .ro:=λv=>rfl
 have g:∀v,(hAdd v).get 12= .cells (oM v) (.ty 204):=λv=>rfl
 have c:(hAdd v).set 12 (.cells (oM (jX b v)) (.ty 204))=hAdd (jX b v):=rfl;have h:=Yg d f;rw[<-c]at h;have dead:∀i,i≠2->i≠12->(hAdd v).get i= .dead:=λi j k=>by show N_ {n:=13,t:=h_ [(2,_),(12,_)]} i=_;simp only[N_,h_,List.foldl,Tr.bk,Tr.nK];simp[j,k]
 refine af.Yb (I:=II) (args:=[.ptr 12 0 0 0,uj b]) (args':=[.ptr l 0 0 0,uj b]) (a:=.bM []) (H0:=hAdd v) h A (λi hi=>?_) (λi hi q=>?_) hG hl zI (λσ=>?_) (λσ=>rfl) (λσ e=>?_) (λσ e=>rfl) (λe=>?_)
 ·have hi:13<=i:=hi
  grind
 ·have hi:i<12:=hi
  grind
 rfl
 ·have e:σ 12=l:=e;show [AV.ptr (σ 12) 0 0 0,uj b]=_;rw[e]
 ·have e:(hAdd v).get 12= .dead:=e
  grind
def QD:ax PP II where
 f:=120
 spec X args H j _:=match args with
  |[.ptr l 0 0 0,x]=>tK X 100000 x H λk H'=>match k,H'.get l with
   | .ae n 1 f,.cells cs (.ty 204)=>X.ag (a_ (n=64)) (X.ag (ke 64 f) (X.ag (nT cs) (X.ag (yN bG (H'.get 2)&&A_ 12 l&&Nat.blt l H'.n) (j (.bM []) (H'.set l (.cells (oM (jX (byteOf f) (ff cs))) (.ty 204)))))))
   |_,_=>X.fail
  |_=>X.fail
 ok X sem hX args H j kp h:=by
  split at h
  ·rename_i l x;obtain⟨k,H',c,o⟩:=lz hX _ _ _ _ h;split at c
   ·rename_i n f cs d;obtain⟨e,k1⟩:=hX.ag _ _ c;obtain⟨m,k2⟩:=hX.ag _ _ k1;obtain⟨p,q⟩:=hX.ag _ _ k2;obtain⟨a,r⟩:=hX.ag _ _ q;have e:n=64:=py e;subst e;simp only[ba,Nat.blt_eq]at a;obtain⟨e4,s⟩:=yP p;refine⟨.ret (.bM []) _,r,?_⟩;have t:=(UX (b:=byteOf f) (fT a.1.2) a.2 (kK a.1.1) (by rw[d,<-e4]) (λi hi=>(pU m hi).2) s);have g:af PP II 120 [.ptr l 0 0 0,.ae 64 1 f] H' _:=t.cS ⟨by simp[AV.le],⟨rfl,rfl,λi hi=>by rw[(pU m hi).1];exact⟨⟨rfl,rfl⟩,trivial⟩⟩,trivial⟩;exact g.Yj o
   ·exact absurd c hX.fail
  ·exact zR
def HB:AH:={n:=12,t:=h_ [(2,.cells bG .ro)]}
def UY(j:Nat):Int:=match j with|0=>0x6a09e667|1=>0xbb67ae85|2=>0x3c6ef372|3=>0xa54ff53a|4=>0x510e527f|5=>0x9b05688c|6=>0x1f83d9ab|7=>0x5be0cd19|_=>0
def h77(v:Nat->Int)(l:List UInt8):AH:={n:=17,t:=h_ [(2,.cells bG .ro),(12,.cells (oM v) (.ty 204)),(16,.str l (.ty 5))]}
def Ig(s:List UInt8)(l:List UInt8):St:={t:=h_ [(0,.str s),(2,.str []),(3,.ptr 12 0 0 0),(4,.own 16 l.length 1)],nt:=40,H:=h77 UY l,df:=[]}
def My(s r:List UInt8):GE:=.one (.x 0 (Ig s r))
def aab(l:List UInt8):AH:={n:=18,t:=h_ [(2,.cells bG .ro),(12,.cells (oM UY) (.ty 204)),(17,.str l (.ty 5))]}
def Mz(s:List UInt8)(i:Int×List UInt8):St:={t:=h_ [(0,.str s),(2,.str []),(3,.ptr 12 0 0 0),(4,.own 17 i.2.length 1),(5,.int g_ i.1)],nt:=40,H:=aab i.2,df:=[]}
def MA(s r:List UInt8):GE:=.one (.x 2 {t:=h_ [(0,.str s),(2,.str []),(3,.ptr 12 0 0 0),(4,.own 17 r.length 1)],nt:=40,H:=aab r,df:=[]})
def abp:Bool->Access|true=> .ro|false=> .ty 5
def abq(l:List UInt8)(b:Bool)(v:Nat->Int):AH:={n:=22,t:=h_ [(2,.cells bG .ro),(12,.cells (oM v) (.ty 204)),(17,.str l (abp b)),(18,.cells [.own 17 l.length 1] (.ty 151)),(19,.cells [.int g_ 64] (.ty 3)),(20,.tL),(21,.loop .ready none (h_ [(2,.str []),(3,.ptr 12 0 0 0)]) 40 [35] (aP II 77) (aQ II 77) 20)]}
def Ih(l:List UInt8)(i:Bool×Int×(Nat->Int)):St:={t:=h_ [(0,.yield 21),(1,.ptr 18 0 0 0),(2,.ptr 19 0 0 0),(4,.int g_ i.2.1)],nt:=31,H:=abq l i.1 i.2.2,df:=[]}
def Ii(v:Nat->Int):GE:=.one (.x 0 {t:=.e,nt:=31,H:={n:=22,t:=h_ [(2,.cells bG .ro),(12,.cells (oM v) (.ty 204)),(20,.tL),(21,.loop .ready none (h_ [(2,.str []),(3,.ptr 12 0 0 0)]) 40 [35] (aP II 77) (aQ II 77) 20)]},df:=[]})
def A3(s:List UInt8)(i:Int):UInt8:=f_ (b_ (z (e_ ((8:Int)*d_ (M s)) (y_ (2:Int) (if b_ ((8:Int)*i)<=(64:Nat)then b_ ((8:Int)*i)else(64:Nat)))) (256:Int)))
def lC(s:List UInt8)(k:Nat):List UInt8:=s++[128]++z_ k 0
def pV(n:Nat):Nat:=(119-n%64)%64
def yQ(s l:List UInt8)(k:Nat):List UInt8:=l++(u_ k).map λj:Nat=>A3 s (7-(j:Int))
def w9(s:List UInt8):List UInt8:=yQ s (lC s (pV s.length)) 8
abbrev UZ(l:List UInt8)(i:Int):Nat->Int:=byteOf λj=>fu l (b_ i+j)
def qO(l:List UInt8):Nat->Nat->Int
 |0=>UY
 |k+1=>jX (UZ l (64*(k:Int))) (ff (oM (qO l k)))
def A4(s:List UInt8):List UInt8:=Dh (ff (oM (qO (w9 s) ((w9 s).length/64))))
def MB(s l r)(Q):(kr [] [] 77 3004 16 (Ig s) (λ_=>My s r) (λl=>l++[0]) Q l)=(let a:=(t_ l [0]);(ak (!decide (L_ (d_ (M l)) 64=56)) (B (a_ (M l<=M l)&&true&&true&&a_ ((M l+1)*1<=140737488355328)&&(a_ (M l=M l)&&true)) (zyB a (zyB s (bh (M l+1) (M a) (zyB [] Q))))) (eX l r (zyB s (bh (M l) (M r) (zyB [] True)))))):=U
def MC(s l r)(i)(A3:Int->UInt8)(Q):(kr [] [] 77 6002 17 (Mz s) (λ_=>MA s r) (λi=>(i.1-1,i.2++[A3 i.1])) Q (i,l))=(let a:=(e_ (8*d_ (M s)) (y_ 2 (if b_ (8*i)<=64 then b_ (8*i)else 64)));(ak (a_ (i>=0)) (B (aJ g_ (8*d_ (M s))) (B (aJ g_ (8*i)) (B (a_ (0<=8*i)) (B (a_ (M l<=M l)&&true&&true&&a_ ((M l+1)*1<=140737488355328)&&(a_ (M l=M l)&&(a_ (0<=z a 256)&&a_ (z a 256<=255)&&true))) (B (aJ g_ (i-1)) (eX (t_ l [f_ (b_ (z a 256))]) (t_ l [A3 i]) (zyI (i-1) (zyB s (bh (M l+1) (M (t_ l [A3 i])) (zyB [] Q)))))))))) (eX l r (zyB s (bh (M l) (M r) (zyB [] True)))))):=U
def MD(l)(i)(v r)(a:Int->(Nat->Int)->Nat->Int)(Q):(kr [QD] [] 162 1004 22 (Ih l) (λ_=>Ii r) (λi=>(true,i.2.1+64,a i.2.1 i.2.2)) Q (false,i,v))=(let c:=(b_ (d_ (M l)-i));let d:=(i+if d_ c<64 then d_ c else 64);let b:=(byteOf λe=>fu l (i.toNat+e));(ak (a_ (i<d_ (M l))) (B (a_ (0<=i)&&a_ (i<=d_ (M l))&&a_ (d_ (M l)<=d_ (M l))&&a_ (0<M l)) (B (aJ g_ d) (B (aJ g_ d) (B (a_ (0<=i)&&a_ (i<=i+if d_ c<64 then d_ c else 64)&&a_ (d<=i+if d_ c<64 then d_ c else 64)&&a_ (d<=d_ (M l))&&a_ (0<M l)) (B (a_ (i.toNat+b_ (d-i)<=M l)) (B (a_ (b_ (d-i)=64)) (B (ke 64 λe=>fu l (i.toNat+e)) (B (nT (oM v)) (B (aJ g_ (i+64)) (aH (aP II 77) (aP II 77)/\aH (aQ II 77) (aQ II 77)/\zyB [] (zyN (M l) (zyB l (aS (jX b (ff (oM v)) 0) (a i v 0) (aS (jX b (ff (oM v)) 1) (a i v 1) (aS (jX b (ff (oM v)) 2) (a i v 2) (aS (jX b (ff (oM v)) 3) (a i v 3) (aS (jX b (ff (oM v)) 4) (a i v 4) (aS (jX b (ff (oM v)) 5) (a i v 5) (aS (jX b (ff (oM v)) 6) (a i v 6) (aS (jX b (ff (oM v)) 7) (a i v 7) (zyI (i+64) Q))))))))))))))))))))) (aH (aP II 77) (aP II 77)/\aH (aQ II 77) (aQ II 77)/\zyB [] (aS (v 0) (r 0) (aS (v 1) (r 1) (aS (v 2) (r 2) (aS (v 3) (r 3) (aS (v 4) (r 4) (aS (v 5) (r 5) (aS (v 6) (r 6) (aS (v 7) (r 7) True))))))))))):=U
def ME(l)(i)(v r)(a:Int->(Nat->Int)->Nat->Int)(Q):(kr [QD] [] 162 1004 22 (Ih l) (λ_=>Ii r) (λi=>(true,i.2.1+64,a i.2.1 i.2.2)) Q (true,i,v))=(let c:=(b_ (d_ (M l)-i));let d:=(i+if d_ c<64 then d_ c else 64);let b:=(byteOf λe=>fu l (i.toNat+e));(ak (a_ (i<d_ (M l))) (B (a_ (0<=i)&&a_ (i<=d_ (M l))&&a_ (d_ (M l)<=d_ (M l))&&a_ (0<M l)) (B (aJ g_ d) (B (aJ g_ d) (B (a_ (0<=i)&&a_ (i<=i+if d_ c<64 then d_ c else 64)&&a_ (d<=i+if d_ c<64 then d_ c else 64)&&a_ (d<=d_ (M l))&&a_ (0<M l)) (B (a_ (i.toNat+b_ (d-i)<=M l)) (B (a_ (b_ (d-i)=64)) (B (ke 64 λe=>fu l (i.toNat+e)) (B (nT (oM v)) (B (aJ g_ (i+64)) (aH (aP II 77) (aP II 77)/\aH (aQ II 77) (aQ II 77)/\zyB [] (zyN (M l) (zyB l (aS (jX b (ff (oM v)) 0) (a i v 0) (aS (jX b (ff (oM v)) 1) (a i v 1) (aS (jX b (ff (oM v)) 2) (a i v 2) (aS (jX b (ff (oM v)) 3) (a i v 3) (aS (jX b (ff (oM v)) 4) (a i v 4) (aS (jX b (ff (oM v)) 5) (a i v 5) (aS (jX b (ff (oM v)) 6) (a i v 6) (aS (jX b (ff (oM v)) 7) (a i v 7) (zyI (i+64) Q))))))))))))))))))))) (aH (aP II 77) (aP II 77)/\aH (aQ II 77) (aQ II 77)/\zyB [] (aS (v 0) (r 0) (aS (v 1) (r 1) (aS (v 2) (r 2) (aS (v 3) (r 3) (aS (v 4) (r 4) (aS (v 5) (r 5) (aS (v 6) (r 6) (aS (v 7) (r 7) True))))))))))):=U
def Yk(s r1 b r)(v):(ka [QD,aaa] (mO PP II [(3004,16,Ig s (lC s 0),My s r1),(6002,17,Mz s (7,r1),MA s b),(1004,22,Ih b (false,0,UY),Ii v)]) 1000 77 [.str s] HB (λa H=>qn HB.n a H (.str r) HB True) (λ_ _=>False))=(let c:=[c_ .u32 (v 0),c_ .u32 (v 1),c_ .u32 (v 2),c_ .u32 (v 3),c_ .u32 (v 4),c_ .u32 (v 5),c_ .u32 (v 6),c_ .u32 (v 7)];(B (a_ (0+M s<=M s)&&true&&true&&a_ ((M s+1)*1<=140737488355328)&&(a_ (M s=M s)&&true)) (ay PP II false (az II 77 3004) 16 (Ig s (lC s 0)) (My s r1)/\eX (t_ s [128]) (lC s 0) (zyB s (bh (M s+1) (M (lC s 0)) (zyB [] (ay PP II false (az II 77 6002) 17 (Mz s (7,r1)) (MA s b)/\zyB r1 (zyB s (zyN (M r1) (zyB [] (ay PP II false (az II 162 1004) 22 (Ih b (false,0,UY)) (Ii v)/\aH (aP II 77) (aP II 77)/\aH (aQ II 77) (aQ II 77)/\zyB [] (zyN (M b) (zyB b (B (nT c) (eX (Dh (ff c)) r True))))))))))))))):=U
def oN(c):aH c c:=rfl
def U0{n}(h:n<=1000000):(a_ (0+n<=n)&&true&&true&&a_ ((n+1)*1<=140737488355328)&&(a_ (n=n)&&true))=true:=by
 grind
def BI{n k}(a:k<=pV n):(n+1+k)%64=56↔k=pV n:=by
 unfold pV at*;omega
def qP(s)(k):(lC s k).length=s.length+1+k:=by simp[lC];omega
def BJ(s)(k):lC s k++[0]=lC s (k+1):=by
 unfold lC;rw[D_,<-List.replicate_succ']
def Yl(n):L_ (d_ n) 64=((n%64:Nat):Int):=rfl
def Ym{n}(h:n<=1000000):(a_ (n<=n)&&true&&true&&a_ ((n+1)*1<=140737488355328)&&(a_ (n=n)&&true))=true:=by
 grind
def U2{n}{x:Int}(h:n<=1000000):(a_ (n<=n)&&true&&true&&a_ ((n+1)*1<=140737488355328)&&(a_ (n=n)&&(a_ (0<=z x 256)&&a_ (z x 256<=255)&&true)))=true:=by
 rw[Kv,bK (dP n),bK O,bK (rfl:n=n)];rfl
def MF{s}(f:s.length<=900000):ay PP II false (az II 77 3004) 16 (Ig s (lC s 0)) (My s (lC s (pV s.length))):=
 ay.of (ι:=List UInt8) fU [] (aX PP II []) 1000 16 (λl=> ∃k,k<=pV s.length/\l=lC s k) (Ig s) (λ_=>My s (lC s (pV s.length))) (λl=>s.length+1+pV s.length-l.length) (λl=>l++[0]) (lC s 0) A
  ⟨0,Nat.zero_le _,rfl⟩ λl hl=>by
  obtain⟨k,b,rfl⟩:=hl;have g:pV s.length<64:=w_ _ O;refine(MB s (lC s k) (lC s (pV s.length)) _).mpr ?_;have a:=qP s k;have c:L_ (d_ (M (lC s k))) 64=(((s.length+1+k)%64:Nat):Int):=by rw[Yl,a]
  rw[c];refine aaz (λh=>?_) λh=>?_
  ·simp only[Bool.not_eq_true',je]at h;have d:k≠pV s.length:=λe=>h (by have:=(BI b).2 e;omega)
   refine ZF (Ym O) (aaY A (aaY A (aan ?_ (aaY A ⟨⟨k+1,O,BJ s k⟩,?_,rfl⟩))));simp
   grind
  ·simp only[Bool.not_eq_false',bl]at h;have:k=pV s.length:=(BI b).1 O;subst this;exact aaY A (aaY A (aan A (aaY A trivial)))
def Fa(s l)(k):(yQ s l k).length=l.length+k:=by simp[yQ]
def MG(s l)(k):yQ s l k++[A3 s (7-(k:Int))]=yQ s l (k+1):=by
 unfold yQ;rw[List.range_succ,List.map_append,D_];rfl
def MH{s l}(f:s.length<=900000)(hl:l.length<=990000):ay PP II false (az II 77 6002) 17 (Mz s (7,l)) (MA s (yQ s l 8)):=
 ay.of (ι:=Int×List UInt8) fU [] (aX PP II []) 1000 17 (λi=> ∃k:Nat,k<=8/\i.1=7-(k:Int)/\i.2=yQ s l k) (Mz s) (λ_=>MA s (yQ s l 8)) (λi=>(i.1+1).toNat) (λi=>(i.1-1,i.2++[A3 s i.1])) (7,l) A
  ⟨0,O,rfl,(List.append_nil l).symm⟩ λi hi=>by
  obtain⟨i,a⟩:=i;obtain⟨k,e,c,b⟩:=hi;change i=7-(k:Int)at c;change a=yQ s l k at b;have d:a.length=l.length+k:=by rw[b,Fa]
  refine(MC s a (yQ s l 8) i (A3 s) _).mpr (aaz (λh=>?_) λh=>?_)
  ·simp only[bl]at h;have e:k<8:=O;refine ZF (ai Y Y) (ZF (ai O O) (ZF Y (ZF (U2 O) (ZF (ai O O) (aaY A (aag A (aaY A (aan ?_ (aaY A ⟨⟨k+1,O,by show i-1=_;omega,?_⟩,?_,rfl⟩)))))))));simp
   ·show a++[A3 s i]=_;rw[c,b,MG]
   omega
  ·simp only[je]at h;have:k=8:=O;subst this;rw[b];exact aaY A (aaY A (aan A (aaY A trivial)))
def QE(s):(w9 s).length=s.length+9+pV s.length/\(w9 s).length%64=0:=by
 unfold w9;rw[Fa,qP];unfold pV;omega
def tp{v}(h:Kt v):nT (oM v)=true:=by
 refine List.all_eq_true.2 λx hx=>?_
 have:∃j,j<8/\x=v j:=by
  simp only[List.mem_cons,List.not_mem_nil,or_false]at hx;rcases hx with e|e|e|e|e|e|e|e
  ·grind
  ·grind
  ·grind
  ·grind
  ·grind
  ·grind
  ·grind
  ·grind
 obtain⟨j,a,rfl⟩:=this;simp only[ba,bl];exact h j a
def aac:Kt UY:=λj a=>by
 match j,a with
 |0,_|1,_|2,_|3,_|4,_|5,_|6,_|7,_=>exact⟨zC,zC⟩
 |k+8,hk=>omega
def Kw(l):∀k,Kt (qO l k)
 |0=>aac
 |_+1=>Ye
def bytesRow(l)(i):ke 64 (λj=>fu l (i+j))=true:=List.all_eq_true.2 λj _=>by
 show(a_ (0<=((l.getD (i+j) 0).toNat:Int))&&a_ (((l.getD (i+j) 0).toNat:Int)<256))=true;have:=UInt8.toNat_lt (l.getD (i+j) 0)
 grind
def MI{l}(j:l.length%64=0)(m:0<l.length)(hl:l.length<=1000000):ay PP II false (az II 162 1004) 22 (Ih l (false,0,UY)) (Ii (qO l (l.length/64))):=
 ay.of (ι:=Bool×Int×(Nat->Int)) fU [QD] (aX PP II []) 1000 22 (λi=> ∃k:Nat,64*k<=l.length/\i.2.1=64*(k:Int)/\i.2.2=qO l k) (Ih l) (λ_=>Ii (qO l (l.length/64))) (λi=>(l.length-i.2.1).toNat) (λi=>(true,i.2.1+64,jX (UZ l i.2.1) (ff (oM i.2.2)))) (false,0,UY) A
  ⟨0,O,rfl,rfl⟩ λi hi=>by
  obtain⟨b,i,v⟩:=i;obtain⟨k,c,d,a⟩:=hi;change i=64*(k:Int)at d;change v=qO l k at a;have f:Kt v:=by rw[a];exact Kw l k
  have g:d_ (M l)=(l.length:Int):=rfl;cases b with
  |false=>
   refine(MD l i v (qO l (l.length/64)) (λi v=>jX (UZ l i) (ff (oM v))) _).mpr (aaz (λh=>?_) λh=>?_)
   ·simp only[bl]at h;have c:64*(k+1)<=l.length:=O;have e:(if d_ (b_ (d_ (M l)-i))<(64:Int)then d_ (b_ (d_ (M l)-i))else(64:Int))=64:=by
     rw[if_neg];show¬ ((b_ (d_ (M l)-i):Nat):Int)<64;omega
    rw[e]
    repeat' (first|with_reducible exact trivial|with_reducible rfl|fail|with_reducible refine aan ?_ ?_|with_reducible refine aag ?_ ?_|with_reducible refine aaY ?_ ?_|with_reducible refine ZF ?_ ?_|with_reducible refine l_ ?_ ?_)
    all_goals first|with_reducible exact oN _|with_reducible exact tp f|with_reducible exact bytesRow _ _|(simp only[ba,bl,g];omega)|exact ai O O|skip
    ·exact⟨k+1,c,Y,by show jX _ _=_;rw[d,a];rfl⟩
   ·simp only[je]at h;have:k=l.length/64:=O;subst this;rw[a]
    repeat' (first|with_reducible exact trivial|with_reducible rfl|fail|with_reducible refine aan ?_ ?_|with_reducible refine aag ?_ ?_|with_reducible refine aaY ?_ ?_|with_reducible refine ZF ?_ ?_|with_reducible refine l_ ?_ ?_)
    all_goals rfl
  |true=>
   refine(ME l i v (qO l (l.length/64)) (λi v=>jX (UZ l i) (ff (oM v))) _).mpr (aaz (λh=>?_) λh=>?_)
   ·simp only[bl]at h;have c:64*(k+1)<=l.length:=O;have e:(if d_ (b_ (d_ (M l)-i))<(64:Int)then d_ (b_ (d_ (M l)-i))else(64:Int))=64:=by
     rw[if_neg];show¬ ((b_ (d_ (M l)-i):Nat):Int)<64;omega
    rw[e]
    repeat' (first|with_reducible exact trivial|with_reducible rfl|fail|with_reducible refine aan ?_ ?_|with_reducible refine aag ?_ ?_|with_reducible refine aaY ?_ ?_|with_reducible refine ZF ?_ ?_|with_reducible refine l_ ?_ ?_)
    all_goals first|with_reducible exact oN _|with_reducible exact tp f|with_reducible exact bytesRow _ _|(simp only[ba,bl,g];omega)|exact ai O O|skip
    ·exact⟨k+1,c,Y,by show jX _ _=_;rw[d,a];rfl⟩
   ·simp only[je]at h;have:k=l.length/64:=O;subst this;rw[a]
    repeat' (first|with_reducible exact trivial|with_reducible rfl|fail|with_reducible refine aan ?_ ?_|with_reducible refine aag ?_ ?_|with_reducible refine aaY ?_ ?_|with_reducible refine ZF ?_ ?_|with_reducible refine l_ ?_ ?_)
    all_goals rfl
def Yn{s}(a:s.length<=900000):af PP II 77 [.str s] HB (.ret (.str (A4 s)) HB):=by
 have d:=QE s;have e:pV s.length<64:=w_ _ O;have b:=qP s (pV s.length);have c:=Yk s (lC s (pV s.length)) (w9 s) (A4 s) (qO (w9 s) ((w9 s).length/64));refine af.of_heap fU [QD,aaa] (aX PP II [(3004,16,Ig s (lC s 0),My s (lC s (pV s.length))),(6002,17,Mz s (7,lC s (pV s.length)),MA s (w9 s)),(1004,22,Ih (w9 s) (false,0,UY),Ii (qO (w9 s) ((w9 s).length/64)))]) 1000 ?_;rw[c];clear c;refine ZF (U0 O) ⟨MF a,aaY ?_ (aaY A (aan ?_ (aaY A ⟨MH a O,aaY A (aaY A (aan A (aaY A ⟨MI d.2 O O,oN _,oN _,aaY A (aan A (aaY A (ZF ?_ (aaY ?_ trivial))))⟩)))⟩)))⟩
 ·simp[lC]
 ·rw[qP]
 ·exact tp (Kw _ _)
 ·rfl
def QF(H:AH):Bool:=yN bG (H.get 2)
def Di(i):HB.get i=if i=2 then .cells bG .ro else .dead:=by
 show N_ {n:=12,t:=h_ [(2,_)]} i=_;simp only[N_,h_,Tr.bk,Tr.nK]
 grind
def af.xa{f args a H}(h:af PP II f args HB (.ret a HB))(d:QF H=true)(b:∀σ,bj.bx σ args=args)(ha:∀σ,a.bx σ=a):af PP II f args H (.ret a H):=by
 refine af.Qx (I:=II) (H0:=HB) h A (λi hi=>?_) (λi hi c=>?_) b ha
 ·have hi:12<=i:=hi;rw[Di,if_neg O]
 ·by_cases e:i=2
  ·subst e;rw[kK d];exact⟨rfl,λσ=>rfl⟩
  ·rw[Di,if_neg e]at c;exact absurd A c
def ax.xa(f:FuncId)(spec:{R:Type}->RI R->List AV->(AV->R)->R)
  (ok:∀{R:Type}(X:RI R)(sem:R->Prop),X.Ok sem->∀args b,sem (spec X args b)->∃a,sem (b a)/\(∀σ,a.bx σ=a)/\(∀σ,bj.bx σ args=args)/\af PP II f args HB (.ret a HB)):ax PP II where
 f:=f
 spec X args H b _:=kJ X 100000 args H λargs' H'=>X.ag (QF H') (spec X args' λa=>b a H')
 ok X sem hX args H b kp h:=by obtain⟨args',H',c,d⟩:=iy hX _ _ _ _ h;obtain⟨i,c⟩:=hX.ag _ _ c;obtain⟨a,k1,k2,j,l⟩:=ok X sem hX _ _ c;exact⟨.ret a H',k1,(l.xa i j k2).pO d⟩
def Ij:ax PP II:=ax.xa 77
 (λX args a=>match args with
  |[.str s]=>X.ag (A_ s.length 900000) (a (.str (A4 s)))
  |_=>X.fail)
 λX sem hX args a h=>by
  split at h
  ·rename_i s;obtain⟨c,b⟩:=hX.ag _ _ h;exact⟨_,b,λ_=>rfl,λ_=>rfl,Yn (by simp_all)⟩
  ·exact zR
abbrev kh(ks:List (ax PP II))(T:l6)(f:FuncId)(args:List AV)(Q:AV->Prop):Prop :=
 ka ks (mO PP II T) 1000 f args HB (λa H=>tK RI.l3 100000 a H λa' H2=>B (A_ 12 H2.n&&QF H2) (Q a')) (λ_ _=>False)
def qQ(σ):bj.le σ bG bG:=by
 unfold bG;generalize kE.vx=l
 induction l with
 |nil=>trivial
 |cons a l b=>exact⟨⟨rfl,rfl⟩,b⟩
def yR{ks:List (ax PP II)}{T:l6}{f:FuncId}{args:List AV}{a':AV}(c:∀σ,AV.le σ a' a')(h:kh ks T f args (λa=>a=a')):af PP II f args HB (.ret a' HB):=by
 obtain⟨o,d,g⟩:=iJ fU ks (aX PP II T) 1000 f args HB _ _ h;cases o with
 |ret a H1=>
  obtain⟨x,H2,k1,k2⟩:=lz RI.dX _ _ _ _ d;obtain⟨b,k1⟩:=aaZ k1;have k1:x=a':=k1;subst k1;simp only[ba]at b;refine(g.yu k2).le (mM.of [] (ie.of (by rfl) A A A b.1 (fI.2 λl hl=>?_)) (c _));rw[Di];by_cases e:l=2
  ·subst e;rw[if_pos A];have i:sig HB.n [] H2.n 2=2:=rfl;have:=fT b.1;show if sig HB.n [] H2.n 2<H2.n then aae.le (sig HB.n [] H2.n) (H2.get (sig HB.n [] H2.n 2)) (aae.cells bG Access.ro)else _
   rw[i,if_pos O,kK b.2];exact⟨qQ _,trivial⟩
  ·rw[if_neg e];trivial
 |rL a H1=>exact d.elim
structure Node where
 lo:Nat->Int
 hi:Nat->Int
 l:List UInt8
 r:List UInt8
def di(x:Node):List AV:=[.int g_ (x.lo 0),.int g_ (x.lo 1),.int g_ (x.lo 2),.int g_ (x.lo 3),.int g_ (x.lo 4),.int g_ (x.lo 5),.int g_ (x.lo 6),.int g_ (x.lo 7),.int g_ (x.hi 0),.int g_ (x.hi 1),.int g_ (x.hi 2),.int g_ (x.hi 3),.int g_ (x.hi 4),.int g_ (x.hi 5),.int g_ (x.hi 6),.int g_ (x.hi 7),.str x.l,.str x.r]
def U3(x)(Q):(kh [yB,Ij] [] 72 [.agg (aB x)] Q)=(let a:=(a_ (x.t=x.t)&&(a_ (x.v=x.v)&&(a_ (x.w=x.w)&&(a_ (x.o=x.o)&&(a_ (x.p=x.p)&&(a_ (x.d=x.d)&&(a_ (x.b=x.b)&&(a_ (x.l=x.l)&&(a_ (x.t=x.t)&&(a_ (x.v=x.v)&&(a_ (x.w=x.w)&&(a_ (x.o=x.o)&&(a_ (x.p=x.p)&&(a_ (x.d=x.d)&&(a_ (x.b=x.b)&&(a_ (x.h=x.h)&&true))))))))))))))));let c:=(aA [x.t,x.s,x.v,x.w,x.o,x.p,x.d,x.l,x.h,x.b]);(B (a_ ((-4611686018427387903:Int)<=x.t)&&a_ (x.t<=4611686018427387903)&&(a_ ((-4611686018427387903:Int)<=x.s)&&a_ (x.s<=4611686018427387903)&&(a_ ((-4611686018427387903:Int)<=x.v)&&a_ (x.v<=4611686018427387903)&&(a_ ((-4611686018427387903:Int)<=x.w)&&a_ (x.w<=4611686018427387903)&&(a_ ((-4611686018427387903:Int)<=x.o)&&a_ (x.o<=4611686018427387903)&&(a_ ((-4611686018427387903:Int)<=x.p)&&a_ (x.p<=4611686018427387903)&&(a_ ((-4611686018427387903:Int)<=x.d)&&a_ (x.d<=4611686018427387903)&&(a_ ((-4611686018427387903:Int)<=x.l)&&a_ (x.l<=4611686018427387903)&&(a_ ((-4611686018427387903:Int)<=x.h)&&a_ (x.h<=4611686018427387903)&&(a_ ((-4611686018427387903:Int)<=x.b)&&a_ (x.b<=4611686018427387903)&&true)))))))))&&true&&true) (B a (B (A_ (M c) 900000) (B a (Q (AV.agg [c_ g_ x.t,c_ g_ x.v,c_ g_ x.w,c_ g_ x.o,c_ g_ x.p,c_ g_ x.d,c_ g_ x.b,c_ g_ x.l,c_ g_ x.t,c_ g_ x.v,c_ g_ x.w,c_ g_ x.o,c_ g_ x.p,c_ g_ x.d,c_ g_ x.b,c_ g_ x.h,F_ (A4 c),F_ []]))))))):=U
def QG(x)(Q):(kh [yB,Ij,bt] [] 42 [.agg (di x)] Q)=(let a:=(1+M (aA [x.lo 0,x.hi 0])+M (aA [x.lo 1,x.hi 1])+M (aA [x.lo 2,x.hi 2])+M (aA [x.lo 3,x.hi 3])+M (aA [x.lo 4,x.hi 4])+M (aA [x.lo 5,x.hi 5])+M (aA [x.lo 6,x.hi 6])+M (aA [x.lo 7,x.hi 7]));let h:=(dD [] [5]);let b:=(dD (dD h (aA [x.lo 0,x.hi 0])) (aA [x.lo 1,x.hi 1]));let D:=(dD (dD b (aA [x.lo 2,x.hi 2])) (aA [x.lo 3,x.hi 3]));let i:=(dD [] [6]);let c:=(dD (dD i (aA [x.lo 0,x.hi 0])) (aA [x.lo 1,x.hi 1]));let E:=(dD (dD c (aA [x.lo 2,x.hi 2])) (aA [x.lo 3,x.hi 3]));let H:=(a_ (1+M (aA [x.lo 0,x.hi 0])+M (aA [x.lo 1,x.hi 1])+M (aA [x.lo 2,x.hi 2])+M (aA [x.lo 3,x.hi 3])+M (aA [x.lo 4,x.hi 4])+M (aA [x.lo 5,x.hi 5])+M (aA [x.lo 6,x.hi 6])+M (aA [x.lo 7,x.hi 7])=1+M (aA [x.lo 0,x.hi 0])+M (aA [x.lo 1,x.hi 1])+M (aA [x.lo 2,x.hi 2])+M (aA [x.lo 3,x.hi 3])+M (aA [x.lo 4,x.hi 4])+M (aA [x.lo 5,x.hi 5])+M (aA [x.lo 6,x.hi 6])+M (aA [x.lo 7,x.hi 7]))&&true);let d:=(dD D (aA [x.lo 4,x.hi 4]));let F:=(dD (dD d (aA [x.lo 5,x.hi 5])) (aA [x.lo 6,x.hi 6]));let e:=(dD E (aA [x.lo 4,x.hi 4]));let G:=(dD (dD e (aA [x.lo 5,x.hi 5])) (aA [x.lo 6,x.hi 6]));let I:=(a_ (0<1+M (aA [x.lo 0,x.hi 0])+M (aA [x.lo 1,x.hi 1])+M (aA [x.lo 2,x.hi 2])+M (aA [x.lo 3,x.hi 3])+M (aA [x.lo 4,x.hi 4])+M (aA [x.lo 5,x.hi 5])+M (aA [x.lo 6,x.hi 6])+M (aA [x.lo 7,x.hi 7])));let j:=(1+M (aA [x.lo 0,x.hi 0])+M (aA [x.lo 1,x.hi 1])+M (aA [x.lo 2,x.hi 2])+M (aA [x.lo 3,x.hi 3])+M (aA [x.lo 4,x.hi 4])+M (aA [x.lo 5,x.hi 5])+M (aA [x.lo 6,x.hi 6]));let k:=(1+M (aA [x.lo 0,x.hi 0])+M (aA [x.lo 1,x.hi 1])+M (aA [x.lo 2,x.hi 2])+M (aA [x.lo 3,x.hi 3])+M (aA [x.lo 4,x.hi 4])+M (aA [x.lo 5,x.hi 5]));let m:=(a_ ((-4611686018427387903:Int)<=x.lo 0)&&a_ (x.lo 0<=4611686018427387903)&&(a_ ((-4611686018427387903:Int)<=x.hi 0)&&a_ (x.hi 0<=4611686018427387903)&&true)&&true&&true);let n:=(a_ ((-4611686018427387903:Int)<=x.lo 1)&&a_ (x.lo 1<=4611686018427387903)&&(a_ ((-4611686018427387903:Int)<=x.hi 1)&&a_ (x.hi 1<=4611686018427387903)&&true)&&true&&true);let o:=(a_ ((-4611686018427387903:Int)<=x.lo 2)&&a_ (x.lo 2<=4611686018427387903)&&(a_ ((-4611686018427387903:Int)<=x.hi 2)&&a_ (x.hi 2<=4611686018427387903)&&true)&&true&&true);let p:=(a_ ((-4611686018427387903:Int)<=x.lo 3)&&a_ (x.lo 3<=4611686018427387903)&&(a_ ((-4611686018427387903:Int)<=x.hi 3)&&a_ (x.hi 3<=4611686018427387903)&&true)&&true&&true);let q:=(a_ ((-4611686018427387903:Int)<=x.lo 4)&&a_ (x.lo 4<=4611686018427387903)&&(a_ ((-4611686018427387903:Int)<=x.hi 4)&&a_ (x.hi 4<=4611686018427387903)&&true)&&true&&true);let s:=(a_ ((-4611686018427387903:Int)<=x.lo 5)&&a_ (x.lo 5<=4611686018427387903)&&(a_ ((-4611686018427387903:Int)<=x.hi 5)&&a_ (x.hi 5<=4611686018427387903)&&true)&&true&&true);let t:=(a_ ((-4611686018427387903:Int)<=x.lo 6)&&a_ (x.lo 6<=4611686018427387903)&&(a_ ((-4611686018427387903:Int)<=x.hi 6)&&a_ (x.hi 6<=4611686018427387903)&&true)&&true&&true);let u:=(a_ ((-4611686018427387903:Int)<=x.lo 7)&&a_ (x.lo 7<=4611686018427387903)&&(a_ ((-4611686018427387903:Int)<=x.hi 7)&&a_ (x.hi 7<=4611686018427387903)&&true)&&true&&true);let v:=(1+M (aA [x.lo 0,x.hi 0])+M (aA [x.lo 1,x.hi 1])+M (aA [x.lo 2,x.hi 2])+M (aA [x.lo 3,x.hi 3])+M (aA [x.lo 4,x.hi 4]));let w:=(1+M (aA [x.lo 0,x.hi 0])+M (aA [x.lo 1,x.hi 1])+M (aA [x.lo 2,x.hi 2])+M (aA [x.lo 3,x.hi 3]));let f:=(dD F (aA [x.lo 7,x.hi 7]));let g:=(dD G (aA [x.lo 7,x.hi 7]));let y:=(1+M (aA [x.lo 0,x.hi 0])+M (aA [x.lo 1,x.hi 1])+M (aA [x.lo 2,x.hi 2]));let C:=(1+M (aA [x.lo 0,x.hi 0])+M (aA [x.lo 1,x.hi 1]));(ak (List.beq x.r []) (B m (B (a_ (1<=M h)&&true&&true&&a_ ((1+M (aA [x.lo 0,x.hi 0]))*1<=140737488355328)&&(a_ (1=M h)&&true)) (B n (B (a_ (1+M (aA [x.lo 0,x.hi 0])<=M (dD h (aA [x.lo 0,x.hi 0])))&&true&&true&&a_ (C*1<=140737488355328)&&(a_ (1+M (aA [x.lo 0,x.hi 0])=M (dD h (aA [x.lo 0,x.hi 0])))&&true)) (B o (B (a_ (1+M (aA [x.lo 0,x.hi 0])+M (aA [x.lo 1,x.hi 1])<=M b)&&true&&true&&a_ (y*1<=140737488355328)&&(a_ (1+M (aA [x.lo 0,x.hi 0])+M (aA [x.lo 1,x.hi 1])=M b)&&true)) (B p (B (a_ (1+M (aA [x.lo 0,x.hi 0])+M (aA [x.lo 1,x.hi 1])+M (aA [x.lo 2,x.hi 2])<=M (dD b (aA [x.lo 2,x.hi 2])))&&true&&true&&a_ (w*1<=140737488355328)&&(a_ (1+M (aA [x.lo 0,x.hi 0])+M (aA [x.lo 1,x.hi 1])+M (aA [x.lo 2,x.hi 2])=M (dD b (aA [x.lo 2,x.hi 2])))&&true)) (B q (B (a_ (1+M (aA [x.lo 0,x.hi 0])+M (aA [x.lo 1,x.hi 1])+M (aA [x.lo 2,x.hi 2])+M (aA [x.lo 3,x.hi 3])<=M D)&&true&&true&&a_ (v*1<=140737488355328)&&(a_ (1+M (aA [x.lo 0,x.hi 0])+M (aA [x.lo 1,x.hi 1])+M (aA [x.lo 2,x.hi 2])+M (aA [x.lo 3,x.hi 3])=M D)&&true)) (B s (B (a_ (1+M (aA [x.lo 0,x.hi 0])+M (aA [x.lo 1,x.hi 1])+M (aA [x.lo 2,x.hi 2])+M (aA [x.lo 3,x.hi 3])+M (aA [x.lo 4,x.hi 4])<=M d)&&true&&true&&a_ (k*1<=140737488355328)&&(a_ (1+M (aA [x.lo 0,x.hi 0])+M (aA [x.lo 1,x.hi 1])+M (aA [x.lo 2,x.hi 2])+M (aA [x.lo 3,x.hi 3])+M (aA [x.lo 4,x.hi 4])=M d)&&true)) (B t (B (a_ (1+M (aA [x.lo 0,x.hi 0])+M (aA [x.lo 1,x.hi 1])+M (aA [x.lo 2,x.hi 2])+M (aA [x.lo 3,x.hi 3])+M (aA [x.lo 4,x.hi 4])+M (aA [x.lo 5,x.hi 5])<=M (dD d (aA [x.lo 5,x.hi 5])))&&true&&true&&a_ (j*1<=140737488355328)&&(a_ (1+M (aA [x.lo 0,x.hi 0])+M (aA [x.lo 1,x.hi 1])+M (aA [x.lo 2,x.hi 2])+M (aA [x.lo 3,x.hi 3])+M (aA [x.lo 4,x.hi 4])+M (aA [x.lo 5,x.hi 5])=M (dD d (aA [x.lo 5,x.hi 5])))&&true)) (B u (B (a_ (1+M (aA [x.lo 0,x.hi 0])+M (aA [x.lo 1,x.hi 1])+M (aA [x.lo 2,x.hi 2])+M (aA [x.lo 3,x.hi 3])+M (aA [x.lo 4,x.hi 4])+M (aA [x.lo 5,x.hi 5])+M (aA [x.lo 6,x.hi 6])<=M F)&&true&&true&&a_ (a*1<=140737488355328)&&(a_ (1+M (aA [x.lo 0,x.hi 0])+M (aA [x.lo 1,x.hi 1])+M (aA [x.lo 2,x.hi 2])+M (aA [x.lo 3,x.hi 3])+M (aA [x.lo 4,x.hi 4])+M (aA [x.lo 5,x.hi 5])+M (aA [x.lo 6,x.hi 6])=M F)&&true)) (B I (B H (B (a_ (d_ a=d_ a)) (B (a_ (b_ (d_ a)=M f)&&true&&true&&a_ (0<d_ a)&&a_ (d_ a<=9223372036854775807)&&true) (B (a_ (x.l=x.l)) (B (a_ (M f+M x.l<=9223372036854775807)) (B (a_ (x.r=x.r)) (B (a_ (M (dD f x.l)+M x.r<=9223372036854775807)) (B (A_ (M (dD (dD f x.l) x.r)) 900000) (Q (F_ (A4 (dD (dD f x.l) x.r))))))))))))))))))))))))))))) (B m (B (a_ (1<=M i)&&true&&true&&a_ ((1+M (aA [x.lo 0,x.hi 0]))*1<=140737488355328)&&(a_ (1=M i)&&true)) (B n (B (a_ (1+M (aA [x.lo 0,x.hi 0])<=M (dD i (aA [x.lo 0,x.hi 0])))&&true&&true&&a_ (C*1<=140737488355328)&&(a_ (1+M (aA [x.lo 0,x.hi 0])=M (dD i (aA [x.lo 0,x.hi 0])))&&true)) (B o (B (a_ (1+M (aA [x.lo 0,x.hi 0])+M (aA [x.lo 1,x.hi 1])<=M c)&&true&&true&&a_ (y*1<=140737488355328)&&(a_ (1+M (aA [x.lo 0,x.hi 0])+M (aA [x.lo 1,x.hi 1])=M c)&&true)) (B p (B (a_ (1+M (aA [x.lo 0,x.hi 0])+M (aA [x.lo 1,x.hi 1])+M (aA [x.lo 2,x.hi 2])<=M (dD c (aA [x.lo 2,x.hi 2])))&&true&&true&&a_ (w*1<=140737488355328)&&(a_ (1+M (aA [x.lo 0,x.hi 0])+M (aA [x.lo 1,x.hi 1])+M (aA [x.lo 2,x.hi 2])=M (dD c (aA [x.lo 2,x.hi 2])))&&true)) (B q (B (a_ (1+M (aA [x.lo 0,x.hi 0])+M (aA [x.lo 1,x.hi 1])+M (aA [x.lo 2,x.hi 2])+M (aA [x.lo 3,x.hi 3])<=M E)&&true&&true&&a_ (v*1<=140737488355328)&&(a_ (1+M (aA [x.lo 0,x.hi 0])+M (aA [x.lo 1,x.hi 1])+M (aA [x.lo 2,x.hi 2])+M (aA [x.lo 3,x.hi 3])=M E)&&true)) (B s (B (a_ (1+M (aA [x.lo 0,x.hi 0])+M (aA [x.lo 1,x.hi 1])+M (aA [x.lo 2,x.hi 2])+M (aA [x.lo 3,x.hi 3])+M (aA [x.lo 4,x.hi 4])<=M e)&&true&&true&&a_ (k*1<=140737488355328)&&(a_ (1+M (aA [x.lo 0,x.hi 0])+M (aA [x.lo 1,x.hi 1])+M (aA [x.lo 2,x.hi 2])+M (aA [x.lo 3,x.hi 3])+M (aA [x.lo 4,x.hi 4])=M e)&&true)) (B t (B (a_ (1+M (aA [x.lo 0,x.hi 0])+M (aA [x.lo 1,x.hi 1])+M (aA [x.lo 2,x.hi 2])+M (aA [x.lo 3,x.hi 3])+M (aA [x.lo 4,x.hi 4])+M (aA [x.lo 5,x.hi 5])<=M (dD e (aA [x.lo 5,x.hi 5])))&&true&&true&&a_ (j*1<=140737488355328)&&(a_ (1+M (aA [x.lo 0,x.hi 0])+M (aA [x.lo 1,x.hi 1])+M (aA [x.lo 2,x.hi 2])+M (aA [x.lo 3,x.hi 3])+M (aA [x.lo 4,x.hi 4])+M (aA [x.lo 5,x.hi 5])=M (dD e (aA [x.lo 5,x.hi 5])))&&true)) (B u (B (a_ (1+M (aA [x.lo 0,x.hi 0])+M (aA [x.lo 1,x.hi 1])+M (aA [x.lo 2,x.hi 2])+M (aA [x.lo 3,x.hi 3])+M (aA [x.lo 4,x.hi 4])+M (aA [x.lo 5,x.hi 5])+M (aA [x.lo 6,x.hi 6])<=M G)&&true&&true&&a_ (a*1<=140737488355328)&&(a_ (1+M (aA [x.lo 0,x.hi 0])+M (aA [x.lo 1,x.hi 1])+M (aA [x.lo 2,x.hi 2])+M (aA [x.lo 3,x.hi 3])+M (aA [x.lo 4,x.hi 4])+M (aA [x.lo 5,x.hi 5])+M (aA [x.lo 6,x.hi 6])=M G)&&true)) (B I (B H (B (a_ (d_ a=d_ a)) (B (a_ (b_ (d_ a)=M g)&&true&&true&&a_ (0<d_ a)&&a_ (d_ a<=9223372036854775807)&&true) (B (a_ (x.l=x.l)) (B (a_ (M g+M x.l<=9223372036854775807)) (B (a_ (x.r=x.r)) (B (a_ (M (dD g x.l)+M x.r<=9223372036854775807)) (B (A_ (M (dD (dD g x.l) x.r)) 900000) (Q (F_ (A4 (dD (dD g x.l) x.r))))))))))))))))))))))))))))))):=U
end
end Go.Sx
