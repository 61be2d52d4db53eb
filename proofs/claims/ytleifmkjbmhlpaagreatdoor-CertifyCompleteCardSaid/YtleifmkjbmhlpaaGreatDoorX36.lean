/- The proof of a statement of the seat, part 36. -/
import Derived.Test.YtleifmkjbmhlpaaGreatDoorX35
import Derived.Test.YtleifmkjbmhlpaaGreatDoorX33
import Derived.Test.YtleifmkjbmhlpaaGreatDoorX26
set_option linter.all false
set_option linter.defProp false
set_option maxRecDepth 1000000
namespace Go.Sx
open Go
open Int renaming ofNat->M
open AV renaming int->z,bool->d_,ae->e_,agg->g_,bM->j_
open Decidable renaming decide->a_
open AH renaming blank->b_
open Go.IntKind renaming i64->c_
open Nat renaming blt->f_,zero_add->k_,ble->l_
open List renaming take->h_,drop->i_
noncomputable section
def AH.D1(H:AH)(b)(l):(H.new b).get l=if l=H.n then b else H.get l:=by
 simp only[AH.new,AH.get,Tr.bk]
 grind
def af.fresh{P I f args}{a:Nat->AV}{b}(h:af P I f args (b_ I.G) (.ret (a I.G) ((b_ I.G).new b)))(d:∀σ,bj.bx σ args=args)(ha:∀σ n,(a n).bx σ=a (σ n))(C:∀σ,b.bx σ=b)(H):
  af P I f args H (.ret (a H.n) (H.new b)):=by
 intro c ρ w vs hG s i;have t:I.G<=H.n:=by
  rw[<-hG];refine Nat.le_of_not_lt λj=>?_
  obtain⟨N,q⟩:=i.eZ H.n j;rw[i.top _ (dP _)]at q;cases q
 have u:∀l,(b_ I.G).get l= .dead:=λl=>rfl
 let σ:Nat->Nat:=λl=>if l<I.G then l else H.n+(l-I.G)
 have v:Sub I.G σ (b_ I.G) H :=
  {lt:=λl hl=>by
    have:l<I.G:=hl
    grind
   ge:=λl hl=>by have :¬ l<I.G:=Nat.not_lt.2 hl;simp only[σ,if_neg this];rfl
   same:=Y
   inj:=Y
   eZ:=λg y=>⟨y,Y⟩
   low:=λl _=>u l}
 have m:(b_ I.G).n=I.G:=rfl;have ht:EE σ (b_ I.G) (CO.ret (a I.G) ((b_ I.G).new b)).heap H (H.new b):=
  {n:=by show H.n+1=H.n+(I.G+1-I.G);omega
   old:=Y
   new:=λl hl=>by
    have hl:I.G<=l:=hl;have o :¬ l<I.G:=Nat.not_lt.2 hl;show(H.new b).get (σ l)=(((b_ I.G).new b).get l).bx σ;rw[AH.D1,AH.D1,m];simp only[σ,if_neg o];by_cases e:l=I.G
    grind
    ·rw[if_neg O,if_neg e,i.low _ O];rfl
   rest:=λl hl _=>by rw[AH.D1,if_neg O]}
 have:=h.lift v ht;rw[d]at this;have e:(CO.ret (a I.G) ((b_ I.G).new b)).jt σ (H.new b)= .ret (a H.n) (H.new b):=by
  show CO.ret ((a I.G).bx σ) (H.new b)=_;rw[ha];have:σ I.G=H.n:=by simp only[σ,if_neg (Pa _)];omega
  rw[this]
 rw[e]at this;exact this c ρ w vs hG s i
def ax.fresh{P:Program}{I:bg}(f:FuncId)(spec:{R:Type}->RI R->List AV->((Nat->AV)->aae->R)->R)
  (ok:∀{R:Type}(X:RI R)(sem:R->Prop),X.Ok sem->∀args c,sem (spec X args c)->∃a b,sem (c a b)/\(∀σ n,(a n).bx σ=a (σ n))/\(∀σ,b.bx σ=b)/\(∀σ,bj.bx σ args=args)/\af P I f args (b_ I.G) (.ret (a I.G) ((b_ I.G).new b))):ax P I where
 f:=f
 spec X args H c _:=kJ X 100000 args H λargs' H'=>spec X args' λa b=>c (a H'.n) (H'.new b)
 ok X sem hX args H c kp h:=by obtain⟨args',H',d,i⟩:=iy hX _ _ _ _ h;obtain⟨a,b,k1,k2,j,l,m⟩:=ok X sem hX _ _ d;exact⟨.ret (a H'.n) (H'.new b),k1,(m.fresh l k2 j H').pO i⟩
def N5(n)(C):(ka ([]:List (ax PP II)) (mO PP II []) 1000 140 [.ae n 3 (av C)] (b_ 12) (λb H=>qn 12 b H (.own 12 n 3) ((b_ 12).new (.rows n 3 (av C) (.ty 76))) True) (λ_ _=>False))=(B (f_ 0 n) (B (a_ ((0+n)*24<=140737488355328)&&true) (ak (a_ (n=0)) (bh n 0 False) (bh (0+n) n (an (0+n) (λi=>bif f_ i 0 then h_ 3 (i_ (0+i*3) [])else av C (i-0)) (av C)/\bh (0+n) n True))))):=U
def N6{n C}(a:0<n)(b:n<=1000):af PP II 140 [.ae n 3 (av C)] (b_ 12) (.ret (.own 12 n 3) ((b_ 12).new (.rows n 3 (av C) (.ty 76)))):=by
 refine af.KX fU [] (aX PP II []) 1000 A ((N5 n C).mpr (ZF (gj a) (ZF Y (aaz (λh=>?_) λh=>?_))))
 grind
 ·refine aan (k_ n) ⟨λi hi σ=>?_,aan (k_ n) trivial⟩;show bj.le σ (bif f_ i 0 then h_ 3 (i_ (0+i*3) [])else av C (i-0)) (av C i);rw[lR (qx i),Nat.sub_zero];exact cM n C i O σ
def K7:ax PP II:=ax.fresh 140
 (λX args b=>match args with
  |[.ae n 3 f]=>X.ag (ar 3 n f&&f_ 0 n&&l_ n 1000) (b (λl=> .own l n 3) (.rows n 3 (av (aF f)) (.ty 76)))
  |_=>X.fail)
 λX sem hX args b h=>by
  split at h
  ·rename_i n f;obtain⟨a,c⟩:=hX.ag _ _ h;simp only[ba,Nat.blt_eq]at a;refine⟨_,_,c,λ_ _=>rfl,λ_=>rfl,λ_=>rfl,(N6 a.1.2 (by simp_all)).cS ⟨⟨rfl,rfl,λi hi=>?_⟩,trivial⟩⟩;rw[(pY (dQ a.1.1 hi)).1];exact ku (aF f) _ i
  ·exact zR
def eF(q:Query)(x:ao)(j k:Nat):Int:=if j<q.nw then q.C j k else if k=2 then(if j=q.nw then x.l else x.h)else 0
def V3(q:Query)(x:ao)(n:Nat)(a:List (Nat×aae)):AH:={n:=n,t:=Tr.ofList ([(0,.cells [.ae 5 2 aC] .ro),(12,.cells (aZ q) (.ty 34)),(13,.cells (aB x) (.ty 43)),(14,.cells [.int c_ 0,.int c_ 0,.bool false] (.ty 185))]++a)}
def t100(c:Bool)(a:List (Nat×AV)):Tr AV:=Tr.ofList ([(2,.ptr 12 0 0 0),(3,.ptr 13 0 0 0),(4,.ptr 14 0 0 0),(6,.bool c)]++a)
def Gl(q:Query)(x:ao)(c:Bool)(D:Nat->Nat->Int)(N:Int->Nat)(V:Nat->Int)(i:Int):St:={t:=t100 c [(11,.own 36 (N i) 1),(44,.own 35 (q.nw+2) 3),(45,.int c_ (M (q.nw+2))),(46,.int c_ i)],nt:=102,H:=V3 q x 37 [(35,.rows (q.nw+2) 3 (av D) (.ty 76)),(36,.rows (N i) 1 (ah V) (.ty 3))],df:=[]}
def Bf(q:Query)(x:ao)(c:Bool)(n:Nat)(V:Nat->Int):GE:=.one (.x 0 {t:=t100 c [(11,.own 36 n 1)],nt:=102,H:=V3 q x 37 [(36,.rows n 1 (ah V) (.ty 3))],df:=[]})
def ri(q:Query)(x:ao)(c:Bool)(D:Nat->Nat->Int)(N:Int->Nat)(V:Nat->Int)(i a j:Int):St:={t:=t100 c [(11,.own 39 (N j) 1),(44,.own 35 (q.nw+2) 3),(45,.int c_ (M (q.nw+2))),(46,.int c_ i),(58,.slice 38 0 0 3 (some 3) 1),(59,.int c_ 3),(60,.int c_ j)],nt:=102,H:=V3 q x 40 [(35,.rows (q.nw+2) 3 (av D) (.ty 76)),(38,.rows 3 1 (ah λk=>a-1+M k) (.ty 3)),(39,.rows (N j) 1 (ah V) (.ty 3))],df:=[]}
def oZ(q:Query)(x:ao)(c:Bool)(D:Nat->Nat->Int)(n:Nat)(V:Nat->Int)(i:Int):GE:=.one (.x 2 {t:=t100 c [(11,.own 39 n 1),(44,.own 35 (q.nw+2) 3),(45,.int c_ (M (q.nw+2))),(46,.int c_ i)],nt:=102,H:=V3 q x 40 [(35,.rows (q.nw+2) 3 (av D) (.ty 76)),(39,.rows n 1 (ah V) (.ty 3))],df:=[]})
def Ck(q)(x)(c)(D)(N)(V)(n)(i f j)(Q){e}(g:e=(ah λk=>f-1+M k)):(kr [oo] [] 100 11001 39 (ri q x c D N V i f) (λ_=>oZ q x c D n V i) (λj=>j+1) Q j)=(ak (a_ (j<3)) (B (a_ (0<=j)&&a_ (j<3)) (B (a_ (0+j.toNat<3)) (B (jw [e_ q.nw 3 (av q.C),e_ q.ng 1 (aN q.G),z c_ q.a,z c_ q.fl,AV.str q.nu,AV.str q.de,z c_ q.top]&&fx {nw:=q.nw,C:=λj k=>cT (av q.C j) k,ng:=q.ng,G:=λj=>q.G j,a:=q.a,fl:=q.fl,nu:=q.nu,de:=q.de,top:=q.top}&&bE x) (ak (a_ ((match K1 x (f-1+M (0+j.toNat))with|true=>((0):Int)|false=>190)=0)) (ak (K1 x (f-1+M (0+j.toNat))&&eU {nw:=q.nw,C:=λj k=>cT (av q.C j) k,ng:=q.ng,G:=λj=>q.G j,a:=q.a,fl:=q.fl,nu:=q.nu,de:=q.de,top:=q.top} x (f-1+M (0+j.toNat))) (B (a_ (N j<=N j)&&true&&true&&a_ ((N j+1)*8<=140737488355328)&&true) (B (aJ c_ (j+1)) (bh (N j+1) (N (j+1)) (an (N j+1) (λi=>bif f_ i (N j)then ah V i else h_ 1 (i_ (0+(i-N j)*1) [z c_ (f-1+M (0+j.toNat))])) (ah V)/\zyR 3 e (zyN (q.nw+2) (zyR (q.nw+2) (av D) (false=false/\zyI x.t (zyI x.s (zyI x.v (zyI x.w (zyI x.o (zyI x.p (zyI x.d (zyI x.l (zyI x.h (zyI x.b (zyN q.nw (zyR q.nw (av q.C) (zyN q.ng (zyR q.ng (aN q.G) (zyI q.a (zyI q.fl (zyB q.nu (zyB q.de (zyI q.top (zyR 5 aC (bh (N j+1) (N (j+1)) (zyI (M (q.nw+2)) (zyN (q.nw+2) (zyI (j+1) (c=c/\zyI i Q))))))))))))))))))))))))))))))) (B (aJ c_ (j+1)) (bh (N j) (N (j+1)) (zyR (N j) (ah V) (zyR 3 e (zyN (q.nw+2) (zyR (q.nw+2) (av D) (false=false/\zyI x.t (zyI x.s (zyI x.v (zyI x.w (zyI x.o (zyI x.p (zyI x.d (zyI x.l (zyI x.h (zyI x.b (zyN q.nw (zyR q.nw (av q.C) (zyN q.ng (zyR q.ng (aN q.G) (zyI q.a (zyI q.fl (zyB q.nu (zyB q.de (zyI q.top (zyR 5 aC (bh (N j) (N (j+1)) (zyI (M (q.nw+2)) (zyN (q.nw+2) (zyI (j+1) (c=c/\zyI i Q)))))))))))))))))))))))))))))))) (B (aJ c_ (j+1)) (bh (N j) (N (j+1)) (zyR (N j) (ah V) (zyR 3 e (zyN (q.nw+2) (zyR (q.nw+2) (av D) (false=false/\zyI x.t (zyI x.s (zyI x.v (zyI x.w (zyI x.o (zyI x.p (zyI x.d (zyI x.l (zyI x.h (zyI x.b (zyN q.nw (zyR q.nw (av q.C) (zyN q.ng (zyR q.ng (aN q.G) (zyI q.a (zyI q.fl (zyB q.nu (zyB q.de (zyI q.top (zyR 5 aC (bh (N j) (N (j+1)) (zyI (M (q.nw+2)) (zyN (q.nw+2) (zyI (j+1) (c=c/\zyI i Q))))))))))))))))))))))))))))))))))) (bh (N j) n (zyR (N j) (ah V) (zyN (q.nw+2) (zyR (q.nw+2) (av D) (false=false/\zyI x.t (zyI x.s (zyI x.v (zyI x.w (zyI x.o (zyI x.p (zyI x.d (zyI x.l (zyI x.h (zyI x.b (zyN q.nw (zyR q.nw (av q.C) (zyN q.ng (zyR q.ng (aN q.G) (zyI q.a (zyI q.fl (zyB q.nu (zyB q.de (zyI q.top (zyR 5 aC (bh (N j) n (zyI (M (q.nw+2)) (zyN (q.nw+2) (c=c/\zyI i True))))))))))))))))))))))))))))):=by subst_vars;kernel_rfl
def Aj(q)(x)(c)(D)(N)(f)(V)(n e)(i)(Q):(kr [oo] [(11001,39,ri q x c D f V i (D i.toNat 2) 0,oZ q x c D e V i)] 100 8001 36 (Gl q x c D N V) (λ_=>Bf q x c n V) (λj=>j+1) Q i)=(ak (a_ (i<M (q.nw+2))) (B (a_ (0<=i)&&a_ (i<M (q.nw+2))) (B (a_ (i.toNat<q.nw+2)) (B (aJ c_ (D i.toNat 2-1)) (B (aJ c_ (D i.toNat 2+1)) (ay PP II false (az II 100 11001) 39 (ri q x c D f V i (D i.toNat 2) 0) (oZ q x c D e V i)/\bh (N i) (f 0) (zyR (N i) (ah V) (an 3 (bY [z c_ (D i.toNat 2-1),z c_ (D i.toNat 2),z c_ (D i.toNat 2+1)] 1) (ah λk=>D i.toNat 2-1+M k)/\zyN (q.nw+2) (zyR (q.nw+2) (av D) (false=false/\zyI x.t (zyI x.s (zyI x.v (zyI x.w (zyI x.o (zyI x.p (zyI x.d (zyI x.l (zyI x.h (zyI x.b (zyN q.nw (zyR q.nw (av q.C) (zyN q.ng (zyR q.ng (aN q.G) (zyI q.a (zyI q.fl (zyB q.nu (zyB q.de (zyI q.top (zyR 5 aC (bh (N i) (f 0) (zyI (M (q.nw+2)) (zyN (q.nw+2) (c=c/\zyI i (B (aJ c_ (i+1)) (bh e (N (i+1)) (zyR e (ah V) (zyN (q.nw+2) (zyR (q.nw+2) (av D) (false=false/\zyI x.t (zyI x.s (zyI x.v (zyI x.w (zyI x.o (zyI x.p (zyI x.d (zyI x.l (zyI x.h (zyI x.b (zyN q.nw (zyR q.nw (av q.C) (zyN q.ng (zyR q.ng (aN q.G) (zyI q.a (zyI q.fl (zyB q.nu (zyB q.de (zyI q.top (zyR 5 aC (bh e (N (i+1)) (zyI (M (q.nw+2)) (zyN (q.nw+2) (c=c/\zyI (i+1) Q))))))))))))))))))))))))))))))))))))))))))))))))))))))))))))) (bh (N i) n (zyR (N i) (ah V) (false=false/\zyI x.t (zyI x.s (zyI x.v (zyI x.w (zyI x.o (zyI x.p (zyI x.d (zyI x.l (zyI x.h (zyI x.b (zyN q.nw (zyR q.nw (av q.C) (zyN q.ng (zyR q.ng (aN q.G) (zyI q.a (zyI q.fl (zyB q.nu (zyB q.de (zyI q.top (zyR 5 aC (bh (N i) n (c=c/\True))))))))))))))))))))))))):=U
def SU(q)(x)(c)(D)(N)(V)(n)(Q){e}(k:e=(nk {nw:=q.nw,C:=aF (av q.C),ng:=q.ng,G:=λj=>q.G j,a:=q.a,fl:=q.fl,nu:=q.nu,de:=q.de,top:=q.top} x)){f}(m:f=(List.all (List.range.loop n []) λi=>true)){g}(r:g=(f&&l_ n 1000000000000&&f_ 0 n)):(ko [aaB,oo,K7,WX,Ru] [(8001,36,Gl q x c D N V 0,Bf q x c n V)] 100 [.agg (aZ q),.agg (aB x)] Q)=(B (ar 3 q.nw (av q.C)&&ar 1 q.ng (aN q.G)) (B (fx {nw:=q.nw,C:=aF (av q.C),ng:=q.ng,G:=λj=>q.G j,a:=q.a,fl:=q.fl,nu:=q.nu,de:=q.de,top:=q.top}) (B (bE x) (ak (!gn {nw:=q.nw,C:=aF (av q.C),ng:=q.ng,G:=λj=>q.G j,a:=q.a,fl:=q.fl,nu:=q.nu,de:=q.de,top:=q.top} x) (aae.cells [e_ 5 2 aC] Access.ro=aae.cells [e_ 5 2 aC] Access.ro/\Q (j_ [g_ [z c_ 0,z c_ 0,d_ false],d_ false])) (ak (!nk {nw:=q.nw,C:=aF (av q.C),ng:=q.ng,G:=λj=>q.G j,a:=q.a,fl:=q.fl,nu:=q.nu,de:=q.de,top:=q.top} x) (B (ar 3 q.nw (av q.C)&&f_ 0 q.nw&&l_ q.nw 1000) (B (a_ (x.l=x.l)) (B (a_ (x.h=x.h)) (B (a_ (q.nw<=q.nw)&&true&&true&&a_ ((q.nw+2)*24<=140737488355328)&&true) (ay PP II false (az II 100 8001) 36 (Gl q x c D N V 0) (Bf q x c n V)/\bh (N 0) 0 (zyN (q.nw+2) (an (q.nw+2) (λi=>bif f_ i q.nw then av (aF (av q.C)) i else h_ 3 (i_ (0+(i-q.nw)*3) [z c_ 0,z c_ 0,z c_ x.l,z c_ 0,z c_ 0,z c_ x.h])) (av D)/\false=false/\zyI x.t (zyI x.s (zyI x.v (zyI x.w (zyI x.o (zyI x.p (zyI x.d (zyI x.l (zyI x.h (zyI x.b (zyN q.nw (zyR q.nw (av q.C) (zyN q.ng (zyR q.ng (aN q.G) (zyI q.a (zyI q.fl (zyB q.nu (zyB q.de (zyI q.top (zyR 5 aC (bh (N 0) 0 (zyI (M (q.nw+2)) (zyN (q.nw+2) (nk {nw:=q.nw,C:=aF (av q.C),ng:=q.ng,G:=λj=>q.G j,a:=q.a,fl:=q.fl,nu:=q.nu,de:=q.de,top:=q.top} x=c/\B (f&&a_ (n<=n)) (B g (B (f&&a_ (n<=n)) (B g (ak (a_ (q.a=1)) (aae.cells [e_ 5 2 aC] Access.ro=aae.cells [e_ 5 2 aC] Access.ro/\Q (j_ [g_ [z c_ 1,z c_ 1,d_ c],d_ true])) (ak (a_ (q.fl=7)) (aae.cells [e_ 5 2 aC] Access.ro=aae.cells [e_ 5 2 aC] Access.ro/\Q (j_ [g_ [z c_ x.b,z c_ x.b,d_ c],d_ true])) (aae.cells [e_ 5 2 aC] Access.ro=aae.cells [e_ 5 2 aC] Access.ro/\Q (j_ [g_ [z c_ (k9 (λi=>V i) n),z c_ (dH (λi=>V i) n),d_ c],d_ true]))))))))))))))))))))))))))))))))))))) (ak (a_ (q.a=1)) (aae.cells [e_ 5 2 aC] Access.ro=aae.cells [e_ 5 2 aC] Access.ro/\Q (j_ [g_ [z c_ 1,z c_ 1,d_ e],d_ true])) (ak (a_ (q.fl=7)) (aae.cells [e_ 5 2 aC] Access.ro=aae.cells [e_ 5 2 aC] Access.ro/\Q (j_ [g_ [z c_ x.b,z c_ x.b,d_ e],d_ true])) (aae.cells [e_ 5 2 aC] Access.ro=aae.cells [e_ 5 2 aC] Access.ro/\Q (j_ [g_ [z c_ x.l,z c_ x.h,d_ e],d_ true]))))))))):=by subst_vars;kernel_rfl
end
end Go.Sx
