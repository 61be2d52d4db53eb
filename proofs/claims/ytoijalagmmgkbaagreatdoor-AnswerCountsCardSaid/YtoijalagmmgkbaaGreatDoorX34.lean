/- The proof of a statement of the seat, part 34. -/
import Derived.Test.YtoijalagmmgkbaaGreatDoorX14
import Derived.Test.YtoijalagmmgkbaaGreatDoorX15
import Derived.Test.YtoijalagmmgkbaaGreatDoorX30
import Derived.Test.YtoijalagmmgkbaaGreatDoorX29
import Derived.Test.YtoijalagmmgkbaaGreatDoorX23
import Derived.Test.YtoijalagmmgkbaaGreatDoorX25
import Derived.Test.YtoijalagmmgkbaaGreatDoorX24
import Derived.Test.YtoijalagmmgkbaaGreatDoorX19
set_option linter.all false
set_option linter.defProp false
set_option maxRecDepth 1000000
namespace Go.Sx
open Go
open Decidable renaming decide->M
open Int renaming ofNat->z,toNat->u_
open AV renaming int->a_,bool->d_,ab->e_,agg->k_,bK->q_
open Go.IntKind renaming i64->b_
open AH renaming blank->c_
open List renaming range->f_,length_cons->i_,take->l_,drop->m_,length_append->r_,filter_cons->t_,all->x_
open Nat renaming blt->g_,zero_add->h_,zero_le->p_,beq->s_,ble->w_
open Classical renaming byContradiction->j_
open Bool renaming and_eq_false_iff->o_,and_self->v_
noncomputable section
def AH.A1(H:AH)(b)(l):(H.new b).get l=if l=H.n then b else H.get l:=by
 simp only[AH.new,AH.get,Tr.bH]
 grind
def af.fresh{P I f args}{a:Nat->AV}{b}(h:af P I f args (c_ I.G) (.ret (a I.G) ((c_ I.G).new b)))(d:∀σ,bt.bD σ args=args)(ha:∀σ n,(a n).bD σ=a (σ n))(C:∀σ,b.bD σ=b)(H):
  af P I f args H (.ret (a H.n) (H.new b)):=by
 intro c ρ w vs hG s i
 have t:I.G<=H.n:=by
  rw[<-hG]
  refine Nat.le_of_not_lt λj=>?_
  obtain⟨N,q⟩:=i.fp H.n j
  rw[i.top _ (dw _)]at q;cases q
 have u:∀l,(c_ I.G).get l= .dead:=λl=>rfl
 let σ:Nat->Nat:=λl=>if l<I.G then l else H.n+(l-I.G)
 have v:Sub I.G σ (c_ I.G) H :=
  {lt:=λl hl=>by
    have:l<I.G:=hl
    grind
   ge:=λl hl=>by
    have :¬ l<I.G:=Nat.not_lt.2 hl
    simp only[σ,if_neg this];rfl
   same:=Y
   inj:=Y
   fp:=λg y=>⟨y,Y⟩
   low:=λl _=>u l}
 have m:(c_ I.G).n=I.G:=rfl
 have ht:Eb σ (c_ I.G) (CO.ret (a I.G) ((c_ I.G).new b)).heap H (H.new b):=
  {n:=by show H.n+1=H.n+(I.G+1-I.G);omega
   old:=Y
   new:=λl hl=>by
    have hl:I.G<=l:=hl
    have o :¬ l<I.G:=Nat.not_lt.2 hl
    show(H.new b).get (σ l)=(((c_ I.G).new b).get l).bD σ
    rw[AH.A1,AH.A1,m]
    simp only[σ,if_neg o]
    by_cases e:l=I.G
    grind
    ·rw[if_neg O,if_neg e,i.low _ O]
     rfl
   rest:=λl hl _=>by
    rw[AH.A1,if_neg O]}
 have:=h.lift v ht
 rw[d]at this
 have e:(CO.ret (a I.G) ((c_ I.G).new b)).iT σ (H.new b)= .ret (a H.n) (H.new b):=by
  show CO.ret ((a I.G).bD σ) (H.new b)=_
  rw[ha]
  have:σ I.G=H.n:=by simp only[σ,if_neg (HD _)];omega
  rw[this]
 rw[e]at this
 exact this c ρ w vs hG s i
def aC.fresh{P:Program}{I:ba}(f:FuncId)(spec:{R:Type}->RI R->List AV->((Nat->AV)->ai->R)->R)
  (ok:∀{R:Type}(X:RI R)(sem:R->Prop),X.Ok sem->∀args d,sem (spec X args d)->∃a b,sem (d a b)/\(∀σ n,(a n).bD σ=a (σ n))/\(∀σ,b.bD σ=b)/\(∀σ,bt.bD σ args=args)/\af P I f args (c_ I.G) (.ret (a I.G) ((c_ I.G).new b))):aC P I where
 f:=f
 spec X args H d _:=jK X 100000 args H λc H'=>spec X c λa b=>d (a H'.n) (H'.new b)
 ok X sem hX args H d kp h:=by
  obtain⟨c,H',i,j⟩:=gC hX _ _ _ _ h
  obtain⟨a,b,k1,k2,l,m,o⟩:=ok X sem hX _ _ i
  exact⟨.ret (a H'.n) (H'.new b),k1,(o.fresh m k2 l H').nI j⟩
def Jw(n:Nat)(C:Nat->Nat->Int):(jE ([]:List (aC PP II)) (mG PP II []) 1000 146 [.ab n 3 (au C)] (c_ 12) (λb H=>qa 12 b H (.own 12 n 3) ((c_ 12).new (.rows n 3 (au C) (.ty 79))) True) (λ_ _=>False))=(B (g_ 0 n) (B (M ((0+n)*24<=140737488355328)&&true) (ah (M (n=0)) (ax n 0 False) (ax (0+n) n (an (0+n) (λi=>bif g_ i 0 then l_ 3 (m_ (0+i*3) [])else au C (i-0)) (au C)/\ax (0+n) n True))))):=U
def Jx{n:Nat}{C:Nat->Nat->Int}(a:0<n)(b:n<=1000):af PP II 146 [.ab n 3 (au C)] (c_ 12) (.ret (.own 12 n 3) ((c_ 12).new (.rows n 3 (au C) (.ty 79)))):=by
 refine af.GX iw [] (bm PP II []) 1000 A ((Jw n C).mpr (Ze (eV a) (Ze (by rw[bW (O:(0+n)*24<=140737488355328)];rfl) (Zh (λh=>?_) λh=>?_))))
 ·simp only[bn]at h;omega
 ·refine YG (h_ n) ⟨λi hi σ=>?_,YG (h_ n) trivial⟩
  show bt.le σ (bif g_ i 0 then l_ 3 (m_ (0+i*3) [])else au C (i-0)) (au C i)
  rw[js (lZ i),Nat.sub_zero]
  exact bC n C i O σ
def G5:aC PP II:=aC.fresh 146
 (λX args b=>match args with
  |[.ab n 3 f]=>X.ak (aI 3 n f&&g_ 0 n&&w_ n 1000) (b (λl=> .own l n 3) (.rows n 3 (au (bG f)) (.ty 79)))
  |_=>X.fail)
 λX sem hX args b h=>by
  split at h
  ·rename_i n f
   obtain⟨a,c⟩:=hX.ak _ _ h
   simp only[bf,Nat.blt_eq]at a
   refine⟨_,_,c,λ_ _=>rfl,λ_=>rfl,λ_=>rfl,(Jx a.1.2 (jX a.2)).dq ⟨⟨rfl,rfl,λi hi=>?_⟩,trivial⟩⟩
   rw[(nP (c7 a.1.1 hi)).1];exact jq (bG f) _ i
  ·exact zR
def cY(q:Query)(x:ay)(j k:Nat):Int:=if j<q.nw then q.C j k else if k=2 then(if j=q.nw then x.l else x.h)else 0
def QM(q:Query)(x:ay)(n:Nat)(a:List (Nat×ai)):AH:={n:=n,t:=Tr.ofList ([(0,.cells [.ab 5 2 aA] .ro),(12,.cells (aY q) (.ty 32)),(13,.cells (aF x) (.ty 48)),(14,.cells [.int b_ 0,.int b_ 0,.bool false] (.ty 99))]++a)}
def t100(c:Bool)(a:List (Nat×AV)):Tr AV:=Tr.ofList ([(2,.ptr 12 0 0 0),(3,.ptr 13 0 0 0),(4,.ptr 14 0 0 0),(6,.bool c)]++a)
def C1(q:Query)(x:ay)(c:Bool)(D:Nat->Nat->Int)(N:Int->Nat)(V:Nat->Int)(i:Int):St:={t:=t100 c [(11,.own 36 (N i) 1),(44,.own 35 (q.nw+2) 3),(45,.int b_ (z (q.nw+2))),(46,.int b_ i)],nt:=102,H:=QM q x 37 [(35,.rows (q.nw+2) 3 (au D) (.ty 79)),(36,.rows (N i) 1 (ae V) (.ty 3))],df:=[]}
def xZ(q:Query)(x:ay)(c:Bool)(n:Nat)(V:Nat->Int):GE:=.one (.x 0 {t:=t100 c [(11,.own 36 n 1)],nt:=102,H:=QM q x 37 [(36,.rows n 1 (ae V) (.ty 3))],df:=[]})
def oN(q:Query)(x:ay)(c:Bool)(D:Nat->Nat->Int)(N:Int->Nat)(V:Nat->Int)(i a j:Int):St:={t:=t100 c [(11,.own 39 (N j) 1),(44,.own 35 (q.nw+2) 3),(45,.int b_ (z (q.nw+2))),(46,.int b_ i),(58,.slice 38 0 0 3 (some 3) 1),(59,.int b_ 3),(60,.int b_ j)],nt:=102,H:=QM q x 40 [(35,.rows (q.nw+2) 3 (au D) (.ty 79)),(38,.rows 3 1 (ae λk=>a-1+z k) (.ty 3)),(39,.rows (N j) 1 (ae V) (.ty 3))],df:=[]}
def mV(q:Query)(x:ay)(c:Bool)(D:Nat->Nat->Int)(n:Nat)(V:Nat->Int)(i:Int):GE:=.one (.x 2 {t:=t100 c [(11,.own 39 n 1),(44,.own 35 (q.nw+2) 3),(45,.int b_ (z (q.nw+2))),(46,.int b_ i)],nt:=102,H:=QM q x 40 [(35,.rows (q.nw+2) 3 (au D) (.ty 79)),(39,.rows n 1 (ae V) (.ty 3))],df:=[]})
def y1(q:Query)(x:ay)(c:Bool)(D:Nat->Nat->Int)(N:Int->Nat)(V:Nat->Int)(n:Nat)(i f j:Int)(Q:Prop){e}(g:e=(ae λk=>f-1+z k)):(kr [mg] [] 92 11001 39 (oN q x c D N V i f) (λ_=>mV q x c D n V i) (λj=>j+1) Q j)=(ah (M (j<3)) (B (M (0<=j)&&M (j<3)) (B (M (0+j.toNat<3)) (B (oA [e_ q.nw 3 (au q.C),e_ q.ng 1 (aR q.G),a_ b_ q.a,a_ b_ q.fl,AV.str q.nu,AV.str q.de,a_ b_ q.top]&&eU {nw:=q.nw,C:=λj k=>bV (au q.C j) k,ng:=q.ng,G:=λj=>q.G j,a:=q.a,fl:=q.fl,nu:=q.nu,de:=q.de,top:=q.top}&&bB x) (ah (M ((match xG x (f-1+z (0+j.toNat))with|true=>((0):Int)|false=>190)=0)) (ah (xG x (f-1+z (0+j.toNat))&&dV {nw:=q.nw,C:=λj k=>bV (au q.C j) k,ng:=q.ng,G:=λj=>q.G j,a:=q.a,fl:=q.fl,nu:=q.nu,de:=q.de,top:=q.top} x (f-1+z (0+j.toNat))) (B (M (N j<=N j)&&true&&true&&M ((N j+1)*8<=140737488355328)&&true) (B (aN b_ (j+1)) (ax (N j+1) (N (j+1)) (an (N j+1) (λi=>bif g_ i (N j)then ae V i else l_ 1 (m_ (0+(i-N j)*1) [a_ b_ (f-1+z (0+j.toNat))])) (ae V)/\zyR 3 e (zyN (q.nw+2) (zyR (q.nw+2) (au D) (false=false/\zyI x.t (zyI x.s (zyI x.v (zyI x.w (zyI x.o (zyI x.p (zyI x.d (zyI x.l (zyI x.h (zyI x.b (zyN q.nw (zyR q.nw (au q.C) (zyN q.ng (zyR q.ng (aR q.G) (zyI q.a (zyI q.fl (zyB q.nu (zyB q.de (zyI q.top (zyR 5 aA (ax (N j+1) (N (j+1)) (zyI (z (q.nw+2)) (zyN (q.nw+2) (zyI (j+1) (c=c/\zyI i Q))))))))))))))))))))))))))))))) (B (aN b_ (j+1)) (ax (N j) (N (j+1)) (zyR (N j) (ae V) (zyR 3 e (zyN (q.nw+2) (zyR (q.nw+2) (au D) (false=false/\zyI x.t (zyI x.s (zyI x.v (zyI x.w (zyI x.o (zyI x.p (zyI x.d (zyI x.l (zyI x.h (zyI x.b (zyN q.nw (zyR q.nw (au q.C) (zyN q.ng (zyR q.ng (aR q.G) (zyI q.a (zyI q.fl (zyB q.nu (zyB q.de (zyI q.top (zyR 5 aA (ax (N j) (N (j+1)) (zyI (z (q.nw+2)) (zyN (q.nw+2) (zyI (j+1) (c=c/\zyI i Q)))))))))))))))))))))))))))))))) (B (aN b_ (j+1)) (ax (N j) (N (j+1)) (zyR (N j) (ae V) (zyR 3 e (zyN (q.nw+2) (zyR (q.nw+2) (au D) (false=false/\zyI x.t (zyI x.s (zyI x.v (zyI x.w (zyI x.o (zyI x.p (zyI x.d (zyI x.l (zyI x.h (zyI x.b (zyN q.nw (zyR q.nw (au q.C) (zyN q.ng (zyR q.ng (aR q.G) (zyI q.a (zyI q.fl (zyB q.nu (zyB q.de (zyI q.top (zyR 5 aA (ax (N j) (N (j+1)) (zyI (z (q.nw+2)) (zyN (q.nw+2) (zyI (j+1) (c=c/\zyI i Q))))))))))))))))))))))))))))))))))) (ax (N j) n (zyR (N j) (ae V) (zyN (q.nw+2) (zyR (q.nw+2) (au D) (false=false/\zyI x.t (zyI x.s (zyI x.v (zyI x.w (zyI x.o (zyI x.p (zyI x.d (zyI x.l (zyI x.h (zyI x.b (zyN q.nw (zyR q.nw (au q.C) (zyN q.ng (zyR q.ng (aR q.G) (zyI q.a (zyI q.fl (zyB q.nu (zyB q.de (zyI q.top (zyR 5 aA (ax (N j) n (zyI (z (q.nw+2)) (zyN (q.nw+2) (c=c/\zyI i True))))))))))))))))))))))))))))):=by subst_vars;kernel_rfl
def wU(q:Query)(x:ay)(c:Bool)(D:Nat->Nat->Int)(N:Int->Nat)(f:Int->Nat)(V:Nat->Int)(n e:Nat)(i:Int)(Q:Prop):(kr [mg] [(11001,39,oN q x c D f V i (D i.toNat 2) 0,mV q x c D e V i)] 92 8001 36 (C1 q x c D N V) (λ_=>xZ q x c n V) (λj=>j+1) Q i)=(ah (M (i<z (q.nw+2))) (B (M (0<=i)&&M (i<z (q.nw+2))) (B (M (i.toNat<q.nw+2)) (B (aN b_ (D i.toNat 2-1)) (B (aN b_ (D i.toNat 2+1)) (aE PP II false (aD II 92 11001) 39 (oN q x c D f V i (D i.toNat 2) 0) (mV q x c D e V i)/\ax (N i) (f 0) (zyR (N i) (ae V) (an 3 (fW [a_ b_ (D i.toNat 2-1),a_ b_ (D i.toNat 2),a_ b_ (D i.toNat 2+1)] 1) (ae λk=>D i.toNat 2-1+z k)/\zyN (q.nw+2) (zyR (q.nw+2) (au D) (false=false/\zyI x.t (zyI x.s (zyI x.v (zyI x.w (zyI x.o (zyI x.p (zyI x.d (zyI x.l (zyI x.h (zyI x.b (zyN q.nw (zyR q.nw (au q.C) (zyN q.ng (zyR q.ng (aR q.G) (zyI q.a (zyI q.fl (zyB q.nu (zyB q.de (zyI q.top (zyR 5 aA (ax (N i) (f 0) (zyI (z (q.nw+2)) (zyN (q.nw+2) (c=c/\zyI i (B (aN b_ (i+1)) (ax e (N (i+1)) (zyR e (ae V) (zyN (q.nw+2) (zyR (q.nw+2) (au D) (false=false/\zyI x.t (zyI x.s (zyI x.v (zyI x.w (zyI x.o (zyI x.p (zyI x.d (zyI x.l (zyI x.h (zyI x.b (zyN q.nw (zyR q.nw (au q.C) (zyN q.ng (zyR q.ng (aR q.G) (zyI q.a (zyI q.fl (zyB q.nu (zyB q.de (zyI q.top (zyR 5 aA (ax e (N (i+1)) (zyI (z (q.nw+2)) (zyN (q.nw+2) (c=c/\zyI (i+1) Q))))))))))))))))))))))))))))))))))))))))))))))))))))))))))))) (ax (N i) n (zyR (N i) (ae V) (false=false/\zyI x.t (zyI x.s (zyI x.v (zyI x.w (zyI x.o (zyI x.p (zyI x.d (zyI x.l (zyI x.h (zyI x.b (zyN q.nw (zyR q.nw (au q.C) (zyN q.ng (zyR q.ng (aR q.G) (zyI q.a (zyI q.fl (zyB q.nu (zyB q.de (zyI q.top (zyR 5 aA (ax (N i) n (c=c/\True))))))))))))))))))))))))):=U
def ND(q:Query)(x:ay)(c:Bool)(D:Nat->Nat->Int)(N:Int->Nat)(V:Nat->Int)(n:Nat)(Q:AV->Prop){e}(k:e=(jA {nw:=q.nw,C:=bG (au q.C),ng:=q.ng,G:=λj=>q.G j,a:=q.a,fl:=q.fl,nu:=q.nu,de:=q.de,top:=q.top} x)){f}(m:f=(x_ (List.range.loop n []) λi=>true)){g}(r:g=(f&&w_ n 1000000000000&&g_ 0 n)):(ko [WV,mg,G5,SJ,Mo] [(8001,36,C1 q x c D N V 0,xZ q x c n V)] 92 [.agg (aY q),.agg (aF x)] Q)=(B (aI 3 q.nw (au q.C)&&aI 1 q.ng (aR q.G)) (B (eU {nw:=q.nw,C:=bG (au q.C),ng:=q.ng,G:=λj=>q.G j,a:=q.a,fl:=q.fl,nu:=q.nu,de:=q.de,top:=q.top}) (B (bB x) (ah (!gk {nw:=q.nw,C:=bG (au q.C),ng:=q.ng,G:=λj=>q.G j,a:=q.a,fl:=q.fl,nu:=q.nu,de:=q.de,top:=q.top} x) (ai.cells [e_ 5 2 aA] Access.ro=ai.cells [e_ 5 2 aA] Access.ro/\Q (q_ [k_ [a_ b_ 0,a_ b_ 0,d_ false],d_ false])) (ah (!jA {nw:=q.nw,C:=bG (au q.C),ng:=q.ng,G:=λj=>q.G j,a:=q.a,fl:=q.fl,nu:=q.nu,de:=q.de,top:=q.top} x) (B (aI 3 q.nw (au q.C)&&g_ 0 q.nw&&w_ q.nw 1000) (B (M (x.l=x.l)) (B (M (x.h=x.h)) (B (M (q.nw<=q.nw)&&true&&true&&M ((q.nw+2)*24<=140737488355328)&&true) (aE PP II false (aD II 92 8001) 36 (C1 q x c D N V 0) (xZ q x c n V)/\ax (N 0) 0 (zyN (q.nw+2) (an (q.nw+2) (λi=>bif g_ i q.nw then au (bG (au q.C)) i else l_ 3 (m_ (0+(i-q.nw)*3) [a_ b_ 0,a_ b_ 0,a_ b_ x.l,a_ b_ 0,a_ b_ 0,a_ b_ x.h])) (au D)/\false=false/\zyI x.t (zyI x.s (zyI x.v (zyI x.w (zyI x.o (zyI x.p (zyI x.d (zyI x.l (zyI x.h (zyI x.b (zyN q.nw (zyR q.nw (au q.C) (zyN q.ng (zyR q.ng (aR q.G) (zyI q.a (zyI q.fl (zyB q.nu (zyB q.de (zyI q.top (zyR 5 aA (ax (N 0) 0 (zyI (z (q.nw+2)) (zyN (q.nw+2) (jA {nw:=q.nw,C:=bG (au q.C),ng:=q.ng,G:=λj=>q.G j,a:=q.a,fl:=q.fl,nu:=q.nu,de:=q.de,top:=q.top} x=c/\B (f&&M (n<=n)) (B g (B (f&&M (n<=n)) (B g (ah (M (q.a=1)) (ai.cells [e_ 5 2 aA] Access.ro=ai.cells [e_ 5 2 aA] Access.ro/\Q (q_ [k_ [a_ b_ 1,a_ b_ 1,d_ c],d_ true])) (ah (M (q.fl=7)) (ai.cells [e_ 5 2 aA] Access.ro=ai.cells [e_ 5 2 aA] Access.ro/\Q (q_ [k_ [a_ b_ x.b,a_ b_ x.b,d_ c],d_ true])) (ai.cells [e_ 5 2 aA] Access.ro=ai.cells [e_ 5 2 aA] Access.ro/\Q (q_ [k_ [a_ b_ (jc (λi=>V i) n),a_ b_ (cG (λi=>V i) n),d_ c],d_ true]))))))))))))))))))))))))))))))))))))) (ah (M (q.a=1)) (ai.cells [e_ 5 2 aA] Access.ro=ai.cells [e_ 5 2 aA] Access.ro/\Q (q_ [k_ [a_ b_ 1,a_ b_ 1,d_ e],d_ true])) (ah (M (q.fl=7)) (ai.cells [e_ 5 2 aA] Access.ro=ai.cells [e_ 5 2 aA] Access.ro/\Q (q_ [k_ [a_ b_ x.b,a_ b_ x.b,d_ e],d_ true])) (ai.cells [e_ 5 2 aA] Access.ro=ai.cells [e_ 5 2 aA] Access.ro/\Q (q_ [k_ [a_ b_ x.l,a_ b_ x.h,d_ e],d_ true]))))))))):=by subst_vars;kernel_rfl
def ya{cs:List AV}{n e:Nat}(a:0<e)(hl:cs.length=n*e):rowsOf n (fW cs e)=cs:=by
 have:=iP (cs:=cs) (o:=0) a (n:=n) O
 simp only[h_,List.drop_zero]at this
 unfold fW
 rw[this,<-hl,List.take_length]
def Rel.cut{c:fw}{ρ:Env}{H:AH}{w:World}{b n e t:Nat}{cs:List AV}(h:Rel c ρ H w)(o:H.get b= .cells cs (.ty t))(hl:cs.length=n*e)(y:0<e):Rel c ρ (H.set b (.rows n e (fW cs e) (.ty t))) w:=by
 have gs:∀l,(H.set b (.rows n e (fW cs e) (.ty t))).get l=if l=b then .rows n e (fW cs e) (.ty t)else H.get l:=λl=>AH.bH H b l _
 have f:∀l,((H.set b (.rows n e (fW cs e) (.ty t))).get l).rw=(H.get l).rw:=λl=>by
  rw[gs]
  by_cases a:l=b
  ·rw[if_pos a,a,o];rfl
  ·rw[if_neg a]
 have C:∀l,(H.set b (.rows n e (fW cs e) (.ty t))).get l≠ .dead->H.get l≠ .dead:=λl=>by
  rw[gs]
  by_cases a:l=b
  ·rw[if_pos a,a,o];exactλ_ D=>by cases D
  ·rw[if_neg a];exact id
 have m:∀l,H.get l= .dead->(H.set b (.rows n e (fW cs e) (.ty t))).get l= .dead:=λl hl=>by
  rw[gs]
  by_cases a:l=b
  ·rw[a,o]at hl;cases hl
  ·rw[if_neg a];exact hl
 refine⟨λl=>?_,λl u r N E q d j F=>?_,λl r N d j=>?_,h.gH,h.size,h.os,h.output,h.tape,h.top,h.fp,λl r N s j=>h.hid l r N (C l s) j,h.env,λl hl=>m l (h.low l hl),h.qY,λl r N d j=>?_,h.xw,h.qZ⟩
 ·rw[gs]
  by_cases a:l=b
  ·subst a
   rw[if_pos A]
   have v:=h.dF l
   rw[o]at v
   refine⟨λi hi=>?_,?_⟩
   ·simp only[fW,List.length_take,List.length_drop]
    have:i*e+e<=n*e:=by
     have:=Nat.mul_le_mul_right e (show i+1<=n from hi)
     rw[Nat.add_mul,Nat.one_mul]at this;exact this
    omega
   ·rw[ya y hl];exact v
  ·rw[if_neg a];exact h.dF l
 ·rw[f]at d
  exact m u (h.sep l u r N E q d j F)
 ·rw[f]at d;exact h.gL l r N d j
 ·rw[f]at d;exact h.pV l r N d j
def af.cut{f:FuncId}{args:List AV}{H H1 H':AH}{a:AV}{d n e t:Nat}{cs:List AV}(j:H.get d= .cells cs (.ty t))(hl:cs.length=n*e)(l:0<e)
  (h:af PP II f args (H.set d (.rows n e (fW cs e) (.ty t))) (.ret a H1)) (hn:H'.n=H1.n) (m:∀i,H'.get i=H1.get i):af PP II f args H (.ret a H'):=by
 intro c ρ w vs hG o q
 have post:∀e w',(CO.ret a H1).post c ρ e w'->(CO.ret a H').post c ρ e w':=λe w' b=>by
  cases e with
  |returned v=>obtain⟨ρ',k1,k2,s⟩:=b;exact⟨ρ',k1,k2.congr hn m,s⟩
  |panicked u=>exact b.elim
  |outgrown=>exact b.elim
 rcases h c ρ w vs hG o (q.cut j hl l)with⟨k1,k2⟩|⟨v,w',k1,k2⟩
 ·exact .inl ⟨k1,k2.mono λe w'=>post e w'⟩
 ·exact .inr ⟨v,w',k1,post _ _ k2⟩
def wV(q:Query):Query:=⟨q.nw,bG (au q.C),q.ng,λj=>q.G j,q.a,q.fl,q.nu,q.de,q.top⟩
def wW(q)(x):∀j,mf (wV q) x j=mf q x j
 |0=>rfl
 |j+1=>by
  show j9 (wV q) x j (mf (wV q) x j)=j9 q x j (mf q x j)
  rw[wW q x j];rfl
def Jy(q)(x):gk (wV q) x=gk q x:=by
 unfold gk lT
 have:dC (wV q) x=dC q x:=wW q x q.nw
 rw[this]
def C2{n p}(h:∀i,p i=true):x_ (List.range.loop n []) p=true:=Y
def Jz(q:Query)(x:ay):jA (wV q) x=jA q x:=by
 unfold jA lT
 have:dC (wV q) x=dC q x:=wW q x q.nw
 rw[this]
structure G6 (e:Query) (x:ay) (b:Nat) (s:Ug):Prop where
 other:s.c=true->∀k,k<b->e.C k 0≠8->Nn (e.C k 1) (gJ x (e.C k 0) 0) (e.C k 2)=true
 own:∀a,s.lo<=a->a<=s.hi->(∀m,m<s.n->s.K m≠a)->x.l<=a/\a<=x.h/\∀k,k<b->e.C k 0=8->Nn (e.C k 1) a (e.C k 2)=true
 low:s.lo=x.l∨∃k,k<b/\s.lo=e.C k 2
 out:∀m,m<s.n->∃k,k<b/\s.K m=e.C k 2
def NE{v:Int}{K:Nat->Int}{n:Nat}:gv v K n=true↔ ∃m,m<n/\K m=v:=by
 unfold gv
 rw[List.any_eq_true]
 exact⟨λ⟨m,h1,a⟩=>⟨m,List.mem_range.1 h1,(by simpa using a:v=K m).symm⟩,λ⟨m,h1,a⟩=>⟨m,List.mem_range.2 h1,by simp[a]⟩⟩
def NF(q:Query)(x:ay)(D:∀j,j<q.nw->1<=q.C j 1/\q.C j 1<=4):∀j,j<=q.nw->G6 q x j (mf q x j)
 |0,_=>⟨λ_ k o=>absurd o (lZ _),λd f i _=>⟨f,i,λk o=>absurd o (lZ _)⟩,.inl A,λm c=>absurd c (lZ _)⟩
 |j+1,G=>by
  have p:=NF q x D j O
  have H:=D j O
  show G6 q x (j+1) (j9 q x j (mf q x j))
  generalize mf q x j=s at p
  have r:∀(b:Prop) [Decidable b],(b->gv (q.C j 2) s.K s.n=false)->∀m,m<(if b then s.n+1 else s.n)->(b/\m=s.n/\(if b then dY s.n s.K (q.C j 2)else s.K) m=q.C j 2)∨(m<s.n/\(if b then dY s.n s.K (q.C j 2)else s.K) m=s.K m):=by
   intro b _ _ m c
   by_cases a:b
   ·simp only[a,if_true]at c⊢
    by_cases e:m=s.n
    ·exact .inl ⟨trivial,e,by subst e;simp[dY]⟩
    ·refine .inr ⟨O,?_⟩
     have:s_ m s.n=false:=by
      cases h:s_ m s.n with
      |false=>rfl
      |true=>exact absurd (dE h) e
     simp[dY,this]
   ·simp only[a,if_false]at c⊢
    exact .inr ⟨c,trivial⟩
  refine⟨λh k o g=>?_,λd f i t=>?_,?_,λm c=>?_⟩
  ·simp only[j9,bf,Bool.or_eq_true,bn]at h
   by_cases e:k=j
   ·subst e
    exact h.2.resolve_left g
   ·exact p.other h.1 k O g
  ·simp only[j9]at f i t
   have u:s.lo<=d:=by
    revert f;split
    ·split<;>omega
    ·omega
   have v:d<=s.hi:=by
    revert i;split
    ·split<;>omega
    ·split
     ·split<;>omega
     ·omega
   have E:∀m,m<s.n->s.K m≠d:=λm c=>by
    by_cases a:q.C j 0=8/\q.C j 1=2/\gv (q.C j 2) s.K s.n=false
    ·have:=t m (by rw[if_pos a];omega)
     rw[if_pos a]at this
     have e:s_ m s.n=false:=by
      cases h:s_ m s.n with
      |false=>rfl
      |true=>have:=dE h;omega
     simpa [dY,e]using this
    ·have:=t m (by rw[if_neg a];exact c)
     rwa[if_neg a]at this
   obtain⟨a1,a2,F⟩:=p.own d u v E
   refine⟨a1,a2,λk o g=>?_⟩
   by_cases e:k=j
   ·subst e
    unfold Nn
    rw[bn]
    have w:q.C k 1=1∨q.C k 1=2∨q.C k 1=3∨q.C k 1=4:=O
    rcases w with h|h|h|h
    ·rw[if_pos ⟨g,.inl h⟩]at f
     rw[if_pos ⟨g,h⟩]at i
     left
     refine⟨h,?_⟩
     revert f i;split<;>split<;>omega
    ·right;left
     refine⟨h,λe=>?_⟩
     by_cases a:gv (q.C k 2) s.K s.n=true
     ·obtain⟨m,c,y⟩:=NE.1 a
      exact E m c (by rw[y,e])
     ·have a:q.C k 0=8/\q.C k 1=2/\gv (q.C k 2) s.K s.n=false:=⟨g,h,by simpa using a⟩
      have:=t s.n (by rw[if_pos a];omega)
      rw[if_pos a]at this
      exact this (by simp[dY,e])
    ·right;right;left
     refine⟨h,?_⟩
     rw[if_neg O,if_pos ⟨g,h⟩]at i
     revert i;split<;>omega
    ·right;right;right
     refine⟨h,?_⟩
     rw[if_pos ⟨g,.inr h⟩]at f
     revert f;split<;>omega
   ·exact F k O g
  ·simp only[j9]
   have old:s.lo=x.l∨∃k,k<j+1/\s.lo=q.C k 2:=p.low.imp id λ⟨k,o,e⟩=>⟨k,O,e⟩
   split
   ·split
    ·exact .inr ⟨j,O,rfl⟩
    ·exact old
   ·exact old
  ·simp only[j9]at c⊢
   rcases r (q.C j 0=8/\q.C j 1=2/\gv (q.C j 2) s.K s.n=false) (λh=>h.2.2) m c with⟨_,_,e⟩|⟨f,e⟩
   ·exact⟨j,O,e⟩
   ·obtain⟨k,o,y⟩:=p.out m f
    exact⟨k,O,e.trans y⟩
def G7(lo:Int)(K:Nat->Int)(S:List Nat):∀n:Nat,(∀d,lo<=d->d<lo+n->∃m,m∈S/\K m=d)->n<=(S.filter λm=>M (lo<=K m)&&M (K m<lo+n)).length
 |0,_=>p_ _
 |n+1,h=>by
  have c:=G7 lo K S n λd f b=>h d f O
  obtain⟨m,i,e⟩:=h (lo+n) O O
  have split:∀S:List Nat,(S.filter λm=>M (lo<=K m)&&M (K m<lo+(n+1:Nat))).length=(S.filter λm=>M (lo<=K m)&&M (K m<lo+n)).length+(S.filter λm=>M (K m=lo+n)).length:=by
   intro S
   induction S with
   |nil=>rfl
   |cons a S c=>
    simp only[t_]
    by_cases f:lo<=K a/\K a<lo+n
    ·have b :¬ K a=lo+n:=by omega
     have g:K a<lo+(n+1:Nat):=O
     simp only[f.1,f.2,b,g,decide_true,decide_false,v_,if_true,i_,kH,if_false,c]
     omega
    ·by_cases b:K a=lo+n
     ·have g :¬ K a<lo+n:=by omega
      have p:K a<lo+(n+1:Nat):=O
      have q:lo<=K a:=O
      simp only[b,decide_true,if_true,i_]at*
      have j:lo+(n:Int)<lo+((n+1:Nat):Int):=O
      have k:lo<=lo+(n:Int):=O
      simp only[j,k,Int.lt_irrefl,decide_true,decide_false,v_,Bool.and_false,if_true,kH,if_false,i_,c]
      omega
     ·have g :¬ (lo<=K a/\K a<lo+(n+1:Nat)):=by omega
      have l:(M (lo<=K a)&&M (K a<lo+(n+1:Nat)))=false:=by rw[o_,iK,iK];omega
      have o:(M (lo<=K a)&&M (K a<lo+(n:Int)))=false:=by rw[o_,iK,iK];omega
      simp only[l,o,b,decide_false,kH,if_false,c]
  rw[split S]
  have:0<(S.filter λm=>M (K m=lo+n)).length:=List.length_pos_iff.2 (List.ne_nil_of_mem (List.mem_filter.2 ⟨i,by simp[e]⟩))
  omega
def QN{q:Query}{x:ay}(y:eU q=true)(p:gk q x=true):∃d,(xG x d&&dV q x d)=true/\(d=x.l∨∃k,k<q.nw/\(d=q.C k 2∨d=q.C k 2+1)):=by
 obtain⟨_,D⟩:=fQ y
 have g:=NF q x (λj E=>(D j E).2.1) q.nw (dw _)
 unfold gk lT fy rL at p
 simp only[bf,bn]at p
 obtain⟨u,F⟩:=p
 have g:G6 q x q.nw (dC q x):=g
 generalize dC q x=s at g u F
 apply j_
 intro r
 have key:∀n:Nat,∀d,s.lo<=d->d<s.lo+n->d<=s.hi->∃m,m<s.n/\s.K m=d:=by
  intro n
  induction n with
  |zero=>intro d c t;omega
  |succ n v=>
   intro d c t w
   by_cases e:d<s.lo+n
   ·exact v d c e w
   apply j_
   intro b
   have b:∀m,m<s.n->s.K m≠d:=λm f e=>b ⟨m,f,e⟩
   obtain⟨a1,a2,G⟩:=g.own d c w b
   refine r ⟨d,?_,?_⟩
   ·simp only[bf]
    refine⟨by unfold xG;simp only[bf,bn];omega,?_⟩
    unfold dV
    rw[List.all_eq_true]
    intro k a
    have a:=List.mem_range.1 a
    unfold gG
    by_cases o:q.C k 0=8
    ·have:gJ x (q.C k 0) d=d:=by rw[o];rfl
     rw[this];exact G k a o
    ·have:gJ x (q.C k 0) d=gJ x (q.C k 0) 0:=by
      unfold gJ
      simp only[o,if_false]
     rw[this];exact g.other u k a o
   ·by_cases H:n=0
    ·have:d=s.lo:=by omega
     rcases g.low with h|⟨k,a,h⟩
     ·exact .inl O
     ·exact .inr ⟨k,a,.inl O⟩
    ·obtain⟨m,f,I⟩:=v (d-1) O O O
     obtain⟨k,a,J⟩:=g.out m f
     exact .inr ⟨k,a,.inr O⟩
 have hn:0<s.hi-s.lo+1:=by
  have:(0:Int)<=(((f_ s.n).filter λj=>M (s.lo<=s.K j)&&M (s.K j<=s.hi)).length:Int):=Int.natCast_nonneg _
  omega
 have i:=G7 s.lo s.K (f_ s.n) (s.hi-s.lo+1).toNat λd c t=>by
  obtain⟨m,f,e⟩:=key (s.hi-s.lo+1).toNat d c t O
  exact⟨m,List.mem_range.2 f,e⟩
 have e:((f_ s.n).filter λj=>M (s.lo<=s.K j)&&M (s.K j<s.lo+(s.hi-s.lo+1).toNat))=(f_ s.n).filter λj=>M (s.lo<=s.K j)&&M (s.K j<=s.hi):=by
  refine List.filter_congr λm _=>?_
  congr 1
  refine decide_eq_decide.2 ?_
  omega
 rw[e]at i
 omega
def qS(q:Query)(x:ay)(d:Int):Bool:=xG x d&&dV q x d
def Fu(q:Query)(x:ay)(c:Bool)(D:Nat->Nat->Int)(N:Int->Nat)(V:Nat->Int)(n:Nat)(i b j:Int)(m:Nat)(E:j=(m:Int))(F:m<3)(t:aI 3 q.nw (au q.C)=true)(u:aI 1 q.ng (aR q.G)=true)(v:eU q=true)(hx:bB x=true)
  (H:N j<=1000) (f:qS q x (b-1+m)=true->N (j+1)=N j+1/\V (N j)=b-1+m) (d:qS q x (b-1+m)=false->N (j+1)=N j) (Q:Prop) (hQ:Q):
  kr [mg] [] 92 11001 39 (oN q x c D N V i b) (λ_=>mV q x c D n V i) (λj=>j+1) Q j:=by
 rw[y1 _ _ _ _ _ _ _ _ _ _ _ A]
 have s:u_ j=m:=O
 have w:z (0+u_ j)=(m:Int):=by rw[s,h_];rfl
 have o:eU ⟨q.nw,λj k=>bV (au q.C j) k,q.ng,λj=>q.G j,q.a,q.fl,q.nu,q.de,q.top⟩=true:=v
 have y:dV ⟨q.nw,λj k=>bV (au q.C j) k,q.ng,λj=>q.G j,q.a,q.fl,q.nu,q.de,q.top⟩ x (b-1+m)=dV q x (b-1+m):=rfl
 rw[w,s,o,y,hx]
 have hi:aN b_ (j+1)=true:=aq O O
 have tail:∀(k:Nat),k=N (j+1)->(an k (ae V) (ae V))->ax k (N (j+1)) (an k (ae V) (ae V)/\True):=λk e r=>YG e ⟨r,trivial⟩
 refine Zg (λ_=>?_) λh=>absurd h O
 refine cC _ _ zN (cC _ _ (by rw[bn];omega) (cC _ _ (by show(aI 3 q.nw (au q.C)&&aI 1 q.ng (aR q.G)&&true&&true)=true;rw[t,u];rfl) ?_))
 cases g:xG x (b-1+m)with
 |true=>
  refine Zg (λ_=>?_) λh=>absurd A h
  have p:qS q x (b-1+m)=dV q x (b-1+m):=by unfold qS;rw[g];rfl
  rw[p]at f d
  cases l:dV q x (b-1+m)with
  |true=>
   obtain⟨k1,k2⟩:=f l
   have rows:=ey V (N j) (b-1+m) k2.symm
   refine cC _ _ (by rw[bW (dw (N j)),bW (O:(N j+1)*8<=140737488355328)];rfl) (cC _ _ hi ?_)
   have k1:=k1.symm
   repeat' (first|exact hQ|exact rows|exact bL _ _|exact bC _ _|exact bO _ _|exact aZ|with_reducible rfl|refine Zf A ?_|refine YG k1 ?_|refine YG A ?_|refine Zi A ?_|refine And.intro ?_ ?_)
  |false=>
   have k1:=(d l).symm
   refine cC _ _ hi ?_
   exact ZC
 |false=>
  refine Zg (λh=>absurd h zC) λ_=>?_
  have k1:=(d (by unfold qS;rw[g];rfl)).symm
  refine cC _ _ hi ?_
  exact ZC
def NG(q:Query)(x:ay)(c:Bool)(D:Nat->Nat->Int)(N:Int->Nat)(V:Nat->Int)(n:Nat)(i a j:Int)(b:j=3)(hn:N j=n)(Q:Prop):
  kr [mg] [] 92 11001 39 (oN q x c D N V i a) (λ_=>mV q x c D n V i) (λj=>j+1) Q j:=by
 rw[y1 _ _ _ _ _ _ _ _ _ _ _ A]
 refine Zg (λh=>absurd h O) λ_=>?_
 repeat' (first|exact trivial|exact bL _ _|exact bC _ _|exact bO _ _|exact aZ|with_reducible rfl|refine Zf A ?_|refine YG hn ?_|refine YG A ?_|refine Zi A ?_|refine And.intro ?_ ?_)
def XY(a:Int):an 3 (fW [.int b_ (a-1),.int b_ a,.int b_ (a+1)] 1) (ae λk=>a-1+z k):=λk b σ=>by
 match k,b with
 |0,_=>exact⟨⟨rfl,by show a-1=a-1+(0:Int);omega⟩,trivial⟩
 |1,_=>exact⟨⟨rfl,by show a=a-1+(1:Int);omega⟩,trivial⟩
 |2,_=>exact⟨⟨rfl,by show a+1=a-1+(2:Int);omega⟩,trivial⟩
 |k+3,h=>exact absurd h O
def C3(q:Query)(x:ay)(c:Bool)(D:Nat->Nat->Int)(N a:Int->Nat)(V:Nat->Int)(n b:Nat)(i:Int)(m:Nat)(hi:i=(m:Int))(f:m<q.nw+2)(hn:q.nw<=6)(g : -1<=D m 2/\D m 2<=4398046511104)
  (hl:aE PP II false (aD II 92 11001) 39 (oN q x c D a V i (D i.toNat 2) 0) (mV q x c D b V i)) (k1:N i=a 0) (k2:b=N (i+1)) (Q:Prop) (hQ:Q):
  kr [mg] [(11001,39,oN q x c D a V i (D i.toNat 2) 0,mV q x c D b V i)] 92 8001 36 (C1 q x c D N V) (λ_=>xZ q x c n V) (λj=>j+1) Q i:=by
 rw[wU]
 have e:u_ i=m:=O
 have k:z (q.nw+2)=(q.nw:Int)+2:=rfl
 rw[e]at hl⊢
 have c3:=XY (D m 2)
 refine Zg (λ_=>?_) λh=>absurd h O
 refine cC _ _ zN (cC _ _ (by rw[bn];omega) (cC _ _ (aq O O) (cC _ _ (aq O O) ⟨hl,?_⟩)))
 have d:aN b_ (i+1)=true:=aq O O
 repeat' (first|exact hQ|exact c3|exact bL _ _|exact bC _ _|exact bO _ _|exact aZ|with_reducible rfl|refine Zf A ?_|refine YG k1 ?_|refine YG k2 ?_|refine YG A ?_|refine Zi A ?_|refine And.intro ?_ ?_|refine cC _ _ d ?_)
def JA(q:Query)(x:ay)(c:Bool)(D:Nat->Nat->Int)(N a:Int->Nat)(V:Nat->Int)(n b:Nat)(i:Int)(hi:i=((q.nw+2:Nat):Int))(k1:N i=n)(Q:Prop):
  kr [mg] [(11001,39,oN q x c D a V i (D i.toNat 2) 0,mV q x c D b V i)] 92 8001 36 (C1 q x c D N V) (λ_=>xZ q x c n V) (λj=>j+1) Q i:=by
 rw[wU]
 have d:z (q.nw+2)=((q.nw+2:Nat):Int):=rfl
 refine Zg (λh=>absurd h O) λ_=>?_
 repeat' (first|exact trivial|exact bL _ _|exact bC _ _|exact bO _ _|exact aZ|with_reducible rfl|refine Zf A ?_|refine YG k1 ?_|refine YG A ?_|refine Zi A ?_|refine And.intro ?_ ?_)
def rT(q:Query)(x:ay)(k:Nat):Int:=cY q x (k/3) 2-1+((k%3:Nat):Int)
def NH(q:Query)(x:ay)(k:Nat):List Int:=((f_ k).map (rT q x)).filter (qS q x)
def ib(q:Query)(x:ay)(k:Nat):Nat:=(NH q x k).length
def jQ(q:Query)(x:ay):Nat:=ib q x (3*(q.nw+2))
def fT(q:Query)(x:ay)(m:Nat):Int:=(NH q x (3*(q.nw+2))).getD m 0
def A2(q:Query)(x:ay)(k n:Nat):NH q x (k+n)=NH q x k++((f_ n).map λj=>rT q x (k+j)).filter (qS q x):=by
 unfold NH
 rw[List.range_add,List.map_append,List.filter_append,List.map_map];rfl
def QO{q:Query}{x:ay}{k:Nat}(h:qS q x (rT q x k)=true):ib q x (k+1)=ib q x k+1:=by
 unfold ib;rw[A2,r_];simp[h]
def Uu{q:Query}{x:ay}{k:Nat}(h:qS q x (rT q x k)=false):ib q x (k+1)=ib q x k:=by
 unfold ib;rw[A2,r_];simp[h]
def NI(q:Query)(x:ay)(k:Nat):ib q x k<=k:=by
 unfold ib NH
 refine Nat.le_trans (List.length_filter_le _ _) ?_
 simp
def Uv{q:Query}{x:ay}{k:Nat}(b:k<3*(q.nw+2))(h:qS q x (rT q x k)=true):fT q x (ib q x k)=rT q x k:=by
 unfold fT ib
 obtain⟨r,a⟩:∃r,3*(q.nw+2)=k+(r+1):=⟨3*(q.nw+2)-k-1,O⟩
 rw[a,A2,List.range_succ_eq_map,List.map_cons,t_,Nat.add_zero,h]
 simp[List.getD_eq_getElem?_getD]
def rU(q:Query)(x:ay)(i j:Nat)(a:j<3):rT q x (3*i+j)=cY q x i 2-1+(j:Int):=by
 unfold rT
 rw[show(3*i+j)/3=i by omega,show(3*i+j)%3=j by omega]
def A3{q:Query}{x:ay}(a:eU q=true)(hx:bB x=true)(m:Nat)(c:m<q.nw+2): -1<=cY q x m 2/\cY q x m 2<=4398046511104:=by
 obtain⟨_,b⟩:=fQ a
 unfold bB at hx
 simp only[bf,bn]at hx
 unfold cY
 by_cases h:m<q.nw
 ·rw[if_pos h];exact(b m h).2.2
 ·rw[if_neg h,if_pos A]
  split<;>omega
def JB(q:Query)(x:ay)(c:Bool)(i:Nat)(hi:i<q.nw+2)(g:aI 3 q.nw (au q.C)=true)(k:aI 1 q.ng (aR q.G)=true)(e:eU q=true)(hx:bB x=true):
  aE PP II false (aD II 92 11001) 39 (oN q x c (cY q x) (λj=>ib q x (3*i+j.toNat)) (fT q x) (i:Int) (cY q x i 2) 0) (mV q x c (cY q x) (ib q x (3*(i+1))) (fT q x) (i:Int)):=by
 have hn:=(fQ e).1
 have key:=aE.of (ι:=Nat) iw [mg] (bm PP II []) 1000 (c:=aD II 92 11001) (ir:=false) 39 (λj=>j<=3) (λj=>oN q x c (cY q x) (λj=>ib q x (3*i+j.toNat)) (fT q x) (i:Int) (cY q x i 2) (j:Int)) (λ_=>mV q x c (cY q x) (ib q x (3*(i+1))) (fT q x) (i:Int)) (λj=>3-j) (λj=>j+1) 0 A (p_ _) λj b=>?_
 ·exact key
 have b:j<=3:=b
 by_cases a:j<3
 ·have d:((j:Int)).toNat=j:=by omega
  have f:((j:Int)+1).toNat=j+1:=O
  have l:=NI q x (3*i+j)
  refine Fu q x c (cY q x) _ (fT q x) _ (i:Int) (cY q x i 2) (j:Int) j A a g k e hx ?_ (λh=>?_) (λh=>?_) ((j+1<=3)/\3-(j+1)<3-j/\(mV q x c (cY q x) (ib q x (3*(i+1))) (fT q x) (i:Int)).pick=(mV q x c (cY q x) (ib q x (3*(i+1))) (fT q x) (i:Int)).pick) ⟨a,O,rfl⟩
  ·show ib q x (3*i+((j:Int)).toNat)<=1000
   rw[d];omega
  ·rw[<-rU q x i j a]at h⊢
   show ib q x (3*i+((j:Int)+1).toNat)=ib q x (3*i+((j:Int)).toNat)+1/\fT q x (ib q x (3*i+((j:Int)).toNat))=_
   rw[d,f]
   exact⟨QO h,Uv O h⟩
  ·rw[<-rU q x i j a]at h
   show ib q x (3*i+((j:Int)+1).toNat)=ib q x (3*i+((j:Int)).toNat)
   rw[d,f]
   exact Uu h
 ·have b:j=3:=by omega
  subst b
  exact NG q x c (cY q x) _ (fT q x) _ (i:Int) (cY q x i 2) 3 A A _
def Fv(q:Query)(x:ay)(c:Bool)(e:aI 3 q.nw (au q.C)=true)(f:aI 1 q.ng (aR q.G)=true)(b:eU q=true)(hx:bB x=true):
  aE PP II false (aD II 92 8001) 36 (C1 q x c (cY q x) (λi=>ib q x (3*i.toNat)) (fT q x) 0) (xZ q x c (jQ q x) (fT q x)):=by
 have hn:=(fQ b).1
 have key:=aE.Vk (ι:=Nat) iw [mg] 1000 (λi=>[(11001,39,oN q x c (cY q x) (λj=>ib q x (3*i+j.toNat)) (fT q x) (i:Int) (cY q x ((i:Int)).toNat 2) 0,mV q x c (cY q x) (ib q x (3*(i+1))) (fT q x) (i:Int))]) (c:=aD II 92 8001) (ir:=false) 36 (λi=>i<=q.nw+2) (λi=>C1 q x c (cY q x) (λi=>ib q x (3*i.toNat)) (fT q x) (i:Int)) (λ_=>xZ q x c (jQ q x) (fT q x)) (λi=>q.nw+2-i) (λi=>i+1) 0 A (p_ _) λi hi=>?_
 ·exact key
 have hi:i<=q.nw+2:=hi
 have d:((i:Int)).toNat=i:=O
 have g:((i:Int)+1).toNat=i+1:=O
 by_cases a:i<q.nw+2
 ·refine C3 q x c (cY q x) _ _ (fT q x) _ _ (i:Int) i A a hn (A3 b hx i a) ?_ ?_ ?_ ((i+1<=q.nw+2)/\q.nw+2-(i+1)<q.nw+2-i/\(xZ q x c (jQ q x) (fT q x)).pick=(xZ q x c (jQ q x) (fT q x)).pick) ⟨a,O,rfl⟩
  ·rw[d];exact JB q x c i a e f b hx
  ·show ib q x (3*((i:Int)).toNat)=ib q x (3*i+0)
   rw[d];rfl
  ·show ib q x (3*(i+1))=ib q x (3*((i:Int)+1).toNat)
   rw[g]
 ·have hi:i=q.nw+2:=by omega
  subst hi
  refine JA q x c (cY q x) _ _ (fT q x) _ _ _ A ?_ _
  show ib q x (3*(((q.nw+2:Nat):Int)).toNat)=jQ q x
  rw[d];rfl
end
end Go.Sx
