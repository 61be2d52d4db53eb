/- The proof of a statement of the seat, part 26. -/
import Derived.Test.YtoijalagmmgkbaaGreatDoorX25
set_option linter.all false
set_option linter.defProp false
set_option maxRecDepth 1000000
namespace Go.Sx
open Go
open Go.IntKind renaming i64->M
open Int renaming ofNat->z,toNat->c_
open Nat renaming blt->a_,pos_of_ne_zero->g_,le_of_lt->h_,div_le_self->i_,mod_lt->l_,mul_comm->n_,zero_mul->o_,gcd_one_right->p_,blt_eq->q_,mul_one->r_,mul_le_mul_left->s_,ble->u_,div_add_mod->w_,mul_assoc->y_,add_comm->z_,beq->A_,gcd->B_,add_mul->C_,mul_pos->D_,div_one->E_
open Decidable renaming decide->b_
open AV renaming str->d_,int->f_,bK->j_,agg->m_
open List renaming beq->e_
open Bool renaming and_self->k_,not_eq_false'->t_
noncomputable section
def bw(a b c d:Nat):Int:=dU (a*d) (c*b)
def Mg(x y):dU y x= -dU x y:=by
 unfold dU
 omega
def Mh(x y k):dU (x+k) (y+k)=dU x y:=by
 unfold dU
 omega
def jU{x y}:dU x y=0↔x=y:=by
 unfold dU
 omega
def yN(x y):dU x y=1∨dU x y=0∨dU x y= -1:=by
 unfold dU
 omega
def Mi{a b c d}(e:0<b)(h:a/b<c/d):a*d<c*b:=by
 by_cases i:d=0
 grind
 ·have f:a<b*(a/b+1):=Nat.lt_mul_div_succ a e
  have g:(c/d)*d<=c:=Nat.div_mul_le_self c d
  have j:a*d<b*(a/b+1)*d:=Nat.mul_lt_mul_of_pos_right f O
  have k:b*(a/b+1)*d<=b*(c/d)*d:=Nat.mul_le_mul_right d (s_ b h)
  have l:b*(c/d)*d<=b*c:=by rw[y_];exact s_ b g
  grind
def rG{a b c d}(e:0<b)(f:0<d)(h:a/b≠c/d):bw a b c d=dU (a/b) (c/d):=by
 unfold bw
 rcases Nat.lt_or_gt_of_ne h with h1|h1
 ·have:=Mi (c:=c) (d:=d) e h1
  unfold dU
  omega
 ·have:=Mi (a:=c) (b:=d) (c:=a) (d:=b) f h1
  unfold dU
  omega
def Cl{a b c d}(h:a/b=c/d):bw a b c d=dU (a%b*d) (c%d*b):=by
 unfold bw
 have e:=w_ a b
 have f:=w_ c d
 have g:a*d=a%b*d+b*(a/b)*d:=by
  conv=>lhs;rw[<-e]
  rw[C_,z_]
 have i:c*b=c%d*b+b*(a/b)*d:=by
  conv=>lhs;rw[<-f]
  rw[C_,z_,h]
  congr 1
  rw[n_ (d*(c/d)) b,n_ d,<-y_]
 rw[g,i,Mh]
def oE{a b c d}(g:0<b)(i:0<d)(h:a/b=c/d):
  (a%b=0->c%d=0->bw a b c d=0)/\(a%b=0->c%d≠0->bw a b c d= -1)/\(a%b≠0->c%d=0->bw a b c d=1)/\(bw b (a%b) d (c%d)= -bw a b c d):=by
 rw[Cl h]
 refine⟨λe f=>?_,λe f=>?_,λe f=>?_,?_⟩
 ·rw[e,f,o_,o_];rfl
 ·rw[e,o_]
  have:0<c%d*b:=D_ O g
  unfold dU;rw[if_pos this]
 ·rw[f,o_]
  have:0<a%b*d:=D_ O i
  unfold dU;omega
 ·unfold bw
  rw[<-Mg,n_ b,n_ d]
def Cm(p:FP):FP:=⟨p.b,p.a%p.b,p.d,p.c%p.d,0-p.s⟩
def T4(p:FP):Prop:=gI p.a=true/\gI p.b=true/\gI p.c=true/\gI p.d=true/\0<p.b/\0<p.d/\(p.s=1∨p.s= -1)
def uW(v):e_ (bu v) [48]=A_ v 0:=Ax ly
def EO{p0}(H:T4 p0):nJ PP II false (AA II 17 0) (Az II 17) 27 (EM p0) (EN (p0.s*bw p0.a p0.b p0.c p0.d)):=
 nJ.of (ι:=FP) iw [Me,Aw] (bm PP II []) 1000 27 0 (λp=>T4 p/\p.s*bw p.a p.b p.c p.d=p0.s*bw p0.a p0.b p0.c p0.d) EM (λ_=>EN (p0.s*bw p0.a p0.b p0.c p0.d)) (λp=>p.b) Cm p0 A U ⟨H,rfl⟩ λp I=>by
  obtain⟨a,b,c,d,s⟩:=p
  obtain⟨⟨ha,m,t,n,f,i,u⟩,k⟩:=I
  change gI a=true at ha
  change gI b=true at m
  change gI c=true at t
  change gI d=true at n
  change 0<b at f
  change 0<d at i
  change s=1∨s= -1 at u
  change s*bw a b c d=_ at k
  refine(IP a b c d s _ Cm _ A A A).mpr ?_
  have w:=dS (i_ a b) ha
  have y:=dS (i_ c d) t
  have C:=dS (h_ (l_ a f)) m
  have D:=dS (h_ (l_ c i)) n
  rw[cq,cq,cq,cq,cq,cq,dc ha,dc m,dc t,dc n,dc w,dc y,show a_ 0 b=true by simp_all,show a_ 0 d=true by simp_all]
  have l:aN M (0-s)=true:=by rcases u with rfl|rfl<;>rfl
  have go:a/b=c/d->a%b≠0->c%d≠0->T4 (Cm ⟨a,b,c,d,s⟩)/\(Cm ⟨a,b,c,d,s⟩).s*bw (Cm ⟨a,b,c,d,s⟩).a (Cm ⟨a,b,c,d,s⟩).b (Cm ⟨a,b,c,d,s⟩).c (Cm ⟨a,b,c,d,s⟩).d=p0.s*bw p0.a p0.b p0.c p0.d:=λo g j=>by
   refine⟨⟨m,C,n,D,g_ g,g_ j,?_⟩,?_⟩
   ·show 0-s=1∨0-s= -1
    omega
   ·show(0-s)*bw b (a%b) d (c%d)=_
    rw[(oE f i o).2.2.2,<-k,Int.zero_sub,Int.neg_mul_neg]
  have both:∀{x:Bool},x=true->x=false->False:=zA
  have E:b>a%b:=l_ a f
  with_reducible refine Ze A (Ze A (Ze A (Zh (λh=>?_) λh=>?_)))
  ·have F:a/b≠c/d:=λe=>by
    rw[jU.2 e]at h
    grind
   have e:=rG f i F
   refine Ze ?_ (Zf (by rw[<-e];exact k) trivial)
   rcases u with rfl|rfl<;>rcases yN (a/b) (c/d)with g|g|g<;>rw[g]<;>rfl
  ·have o:a/b=c/d:=by
    simp only[t_,bn]at h
    exact jU.1 h
   obtain⟨k1,k2,J,_⟩:=oE f i o
   have q:∀{v:Nat},e_ (bu v) [48]=true->v=0:=λ{v} h=>dE ((uW v).symm.trans h)
   have r:∀{v:Nat},e_ (bu v) [48]=false->v≠0:=λ{v} h e=>by
    have:=(uW v).symm.trans h
    simp_all
   with_reducible refine Zh (λg=>Zh (λj=>Zf ?_ trivial) (λj=>Zh (λ_=>Ze l (Zf ?_ trivial)) (λG=>(both g G).elim))) (λg=>Zh (λG=>(both G g).elim) (λ_=>Zh (λj=>Zf ?_ trivial) (λj=>Ze l (Ze ?_ (Zi ?_ (Zi ?_ (Zi ?_ (Zi ?_ (Zf ?_ ?_)))))))))
   ·rw[<-k,k1 (q g) (q j),Int.mul_zero]
   ·rw[<-k,k2 (q g) (r j)];omega
   ·rw[<-k,J (r g) (q j)];omega
   ·simp
   ·rfl
   ·rfl
   ·rfl
   ·rfl
   ·rfl
   ·exact⟨go o (r g) (r j),E,rfl⟩
def Qb{a b c d}(f:bJ (bu a) (bu b)=true)(g:bJ (bu c) (bu d)=true)(ha:gI a=true)(n:gI b=true)(u:gI c=true)(o:gI d=true)(j:0<b)(k:0<d):
  af PP II 17 [.agg [.str (bu a),.str (bu b)],.agg [.str (bu c),.str (bu d)]] HP (.ret (.int M (bw a b c d)) HP):=by
 refine kz (T:=[(500000,27,EM ⟨b,a%b,d,c%d,-1⟩,EN (bw a b c d))]) ((Qa a b c d (bw a b c d) ⟨b,a%b,d,c%d,-1⟩ _ A A A).mpr ?_)
 have p:=dS (i_ a b) ha
 have q:=dS (i_ c d) u
 have r:=dS (h_ (l_ a j)) n
 have s:=dS (h_ (l_ c k)) o
 rw[cq,cq,cq,cq,cq,cq,dc ha,dc n,dc u,dc o,dc p,dc q,show a_ 0 b=true by simp_all,show a_ 0 d=true by simp_all,f,g,Int.one_mul]
 have both:∀{x:Bool},x=true->x=false->False:=zA
 have i:∀{x:Int},x=bw a b c d->∀σ,AV.le σ (.int M x) (.int M (bw a b c d)):=λe _=>⟨rfl,e⟩
 with_reducible refine Ze A (Ze A (Ze A (Ze A (Ze A (Zh (λh=>?_) λh=>?_)))))
 ·have t:a/b≠c/d:=λe=>by
   rw[jU.2 e]at h
   grind
  refine Ze ?_ (i (rG j k t).symm)
  rcases yN (a/b) (c/d)with f|f|f<;>rw[f]<;>rfl
 ·have w:a/b=c/d:=by
   simp only[t_,bn]at h
   exact jU.1 h
  obtain⟨k1,k2,y,D⟩:=oE j k w
  have l:∀{v:Nat},e_ (bu v) [48]=true->v=0:=λ{v} h=>dE ((uW v).symm.trans h)
  have m:∀{v:Nat},e_ (bu v) [48]=false->v≠0:=λ{v} h e=>by
   have:=(uW v).symm.trans h
   simp_all
  with_reducible refine Zh (λf=>Zh (λg=>?_) (λg=>Zh (λ_=>Ze ?_ ?_) (λC=>(both f C).elim))) (λf=>Zh ZD (λ_=>Zh (λg=>?_) (λg=>Ze ?_ (Ze ?_ ⟨?_,Zi ?_ (Zi ?_ (Zi ?_ (Zi ?_ (Zf ?_ ?_))))⟩))))
  ·exact i (k1 (l f) (l g)).symm
  ·rfl
  ·exact i (k2 (l f) (m g)).symm
  ·exact i (y (m f) (l g)).symm
  ·rfl
  ·simp
  ·have:=EO (p0:=⟨b,a%b,d,c%d,-1⟩) ⟨n,r,o,s,g_ (m f),g_ (m g),.inr A⟩
   grind
  all_goals grind
def Cn{a b}(h:bJ a b=true):a=bu (ao a)/\b=bu (ao b)/\gI (ao a)=true/\gI (ao b)=true/\0<ao b:=by
 have f:=h
 unfold bJ at h
 simp only[bf]at h
 obtain⟨⟨⟨c,d⟩,e⟩,_⟩:=h
 rw[q_]at e
 exact⟨(iC c).1,(iC d).1,(iC c).2,(iC d).2,e⟩
def j8:aC PP II:=aC.l8 17
 (λX args f=>match args with
  |[.agg [.str a,.str b],.agg [.str c,.str d]]=>X.ak (bJ a b&&bJ c d) (f (.int M (bw (ao a) (ao b) (ao c) (ao d))))
  |_=>X.fail)
 λX sem hX args f h=>by
  split at h
  ·rename_i a b c d
   obtain⟨e,g⟩:=hX.ak _ _ h
   simp only[bf]at e
   obtain⟨n,o,i,j,k⟩:=Cn e.1
   obtain⟨f1,p,l,m,f5⟩:=Cn e.2
   refine⟨_,g,λ_=>rfl,λ_=>rfl,?_⟩
   have:=Qb Y Y i j l m k f5
   grind
  ·exact zR
def zl:aC PP II:=aC.pure 108
 (λX args d=>match args with
  |[.aw,.ab m 1 g]=>X.ak (jn m g) (d (jm (numOf m g)))
  |[.ab k 1 f,.ab m 1 g]=>X.ak (jn k f&&jn m g) (d (jm (numOf k f+numOf m g)))
  |_=>X.fail)
 λX sem hX args d h=>by
  split at h
  ·rename_i m g
   obtain⟨c,e⟩:=hX.ak _ _ h
   obtain⟨a1,a2⟩:=oD c
   have:=P1 (a:=0) (b:=numOf m g) (k:=0) (by rw[eS];omega) (dw _) (Nat.zero_le _) O
   rw[Nat.zero_add]at this
   exact⟨_,e,λ_=>rfl,λ_=>rfl,this.dq ⟨rfl,a1,trivial⟩⟩
  ·obtain⟨c,e⟩:=hX.ak _ _ h
   simp only[bf]at c
   obtain⟨a1,a2⟩:=oD c.1
   obtain⟨i,j⟩:=oD c.2
   exact⟨_,e,λ_=>rfl,λ_=>rfl,(P1 (dw _) (dw _) O O).dq ⟨a1,i,trivial⟩⟩
  ·exact zR
def V9:aC PP II:=aC.pure 157
 (λX args b=>match args with
  |[.ab k 1 f,.int M 1]=>X.ak (jn k f) (b (jm (numOf k f)))
  |_=>X.fail)
 λX sem hX args b h=>by
  split at h
  ·rename_i k f
   obtain⟨c,d⟩:=hX.ak _ _ h
   obtain⟨a1,a2⟩:=oD c
   have:=Wn (a:=numOf k f) (n:=1) O (dw _) O
   rw[r_]at this
   exact⟨_,d,λ_=>rfl,λ_=>rfl,this.dq ⟨a1,⟨rfl,rfl⟩,trivial⟩⟩
  ·exact zR
def jz:isNat [49]=true:=by rw[<-GR];exact dc (jL O)
def il:ao [49]=1:=by rw[<-GR,cq]
def OR:aC PP II:=aC.pure 106
 (λX args b=>match args with
  |[.str a,.str [49]]=>X.ak (isNat a) (b (.bK [GQ false (ao a),.agg [.bool false,.ab 1 1 λ_=>[.int M 1]],.bool true]))
  |_=>X.fail)
 λX sem hX args b h=>by
  split at h
  ·rename_i a
   obtain⟨c,d⟩:=hX.ak _ _ h
   obtain⟨a1,a2,e⟩:=rF c
   obtain⟨f,g,j⟩:=rF jz
   have:=L7 a2 g (by rw[a1,f];rfl)
   rw[e,j]at this
   refine⟨_,d,λ_=>rfl,λ_=>rfl,this.le (ky.of [] (im.of A A A A A (gS.2 λl _=>trivial)) ⟨⟨rfl,mP _ _,trivial⟩,⟨rfl,⟨?_,rfl,λi hi=>?_⟩,trivial⟩,rfl,trivial⟩)⟩
   ·rw[il,rv O,show 1/10000=0 from rfl,eS]
   ·rw[il,rv O,show 1/10000=0 from rfl,eS]at hi
    rw[il,show i=0 by omega]
    exact⟨⟨rfl,rfl⟩,trivial⟩
  ·exact zR
def Sp(a:List UInt8)(Q:AV->Prop):(kp [OR,V9,zl,L9] [] 115 [.str a,.str [49]] Q)=(let b:=(numOf (ar (numOf (ar (ao a)) (aG (ao a)))) (aG (numOf (ar (ao a)) (aG (ao a)))));(B (isNat a) (B (aN M 0) (B (jn (ar (ao a)) (aG (ao a))) (B (jn (ar (numOf (ar (ao a)) (aG (ao a)))) (aG (numOf (ar (ao a)) (aG (ao a))))) (B (aN M (-1:Int)) (B (jn (ar b) (aG b)&&gI (numOf (ar b) (aG b))) (Q (j_ [d_ (xO false (numOf (ar b) (aG b))),f_ M 0]))))))))):=U
def Sq(a b:List UInt8)(Q:AV->Prop):(kp [Au,zl,L9] [] 55 [.str a,.str b] Q)=(B (isNat a&&isNat b) (B (jn (ar (ao a)) (aG (ao a))&&jn (ar (ao b)) (aG (ao b))) (B (jn (ar (numOf (ar (ao a)) (aG (ao a))+numOf (ar (ao b)) (aG (ao b)))) (aG (numOf (ar (ao a)) (aG (ao a))+numOf (ar (ao b)) (aG (ao b))))&&gI (numOf (ar (numOf (ar (ao a)) (aG (ao a))+numOf (ar (ao b)) (aG (ao b)))) (aG (numOf (ar (ao a)) (aG (ao a))+numOf (ar (ao b)) (aG (ao b)))))) (Q (j_ [d_ (xO false (numOf (ar (numOf (ar (ao a)) (aG (ao a))+numOf (ar (ao b)) (aG (ao b)))) (aG (numOf (ar (ao a)) (aG (ao a))+numOf (ar (ao b)) (aG (ao b)))))),f_ M 0]))))):=U
def Sr{a:List UInt8}(h:isNat a=true)(ht:gI (ao a)=true):af PP II 115 [.str a,.str [49]] HP (.ret (.bK [.str (bu (ao a)),.int M 0]) HP):=by
 refine kz (ks:=[OR,V9,zl,L9]) (T:=[]) ?_
 rw[Sp]
 simp only[bZ,jo ht,h,ht,qH,k_]
 exactλσ=>⟨rfl,⟨rfl,rfl⟩,trivial⟩
def Ss{a b:List UInt8}(ha:isNat a=true)(d:isNat b=true)(ht:gI (ao a)=true)(e:gI (ao b)=true)(c:gI (ao a+ao b)=true):af PP II 55 [.str a,.str b] HP (.ret (.bK [.str (bu (ao a+ao b)),.int M 0]) HP):=by
 refine kz (ks:=[Au,zl,L9]) (T:=[]) ?_
 rw[Sq]
 simp only[bZ,jo ht,jo e,jo c,ha,d,c,qH,k_]
 exactλσ=>⟨rfl,⟨rfl,rfl⟩,trivial⟩
def U7:aC PP II:=aC.l8 115
 (λX args c=>match args with
  |[.str a,.str [49]]=>X.ak (isNat a&&gI (ao a)) (c (.bK [.str (bu (ao a)),.int M 0]))
  |_=>X.fail)
 λX sem hX args c h=>by
  split at h
  ·rename_i a
   obtain⟨b,d⟩:=hX.ak _ _ h
   rw[bf]at b
   exact⟨_,d,λ_=>rfl,λ_=>rfl,Sr b.1 b.2⟩
  ·exact zR
def Ve:aC PP II:=aC.l8 55
 (λX args c=>match args with
  |[.str a,.str b]=>X.ak (isNat a&&isNat b&&gI (ao a)&&gI (ao b)&&gI (ao a+ao b)) (c (.bK [.str (bu (ao a+ao b)),.int M 0]))
  |_=>X.fail)
 λX sem hX args c h=>by
  split at h
  ·rename_i a b
   obtain⟨d,e⟩:=hX.ak _ _ h
   simp only[bf]at d
   obtain⟨⟨⟨⟨a1,a2⟩,f⟩,a4⟩,g⟩:=d
   exact⟨_,e,λ_=>rfl,λ_=>rfl,Ss a1 a2 f a4 g⟩
  ·exact zR
def Su(a b:List UInt8)(Q:AV->Prop):(kp [yM,U7,Ve,Mf,TY,Me] [] 25 [.agg [.str a,.str [49]],.agg [.str b,.str [49]]] Q)=(let c:=(ao [49]);let e:=(ao (bu (ao a))+ao (bu (ao b)));let d:=(bu (B_ (ao (bu e)) (ao (bu c))));(B (bJ a [49]) (B (aN M 1) (B (bJ b [49]) (B (aN M 2) (B (isNat a&&gI (ao a)) (B (b_ (b=b)) (B (isNat b&&gI (ao b)) (B (isNat (bu (ao a))&&isNat (bu (ao b))&&gI (ao (bu (ao a)))&&gI (ao (bu (ao b)))&&gI e) (B (isNat [49]&&gI c) (ah (e_ (bu c) [48]) (Q (j_ [m_ [d_ [],d_ []],f_ M 40])) (B (isNat (bu c)&&a_ 0 (ao (bu c))) (B (isNat (bu e)&&isNat (bu c)) (B (isNat (bu e)&&isNat d&&a_ 0 (ao d)) (B (isNat (bu c)&&isNat d&&a_ 0 (ao d)) (Q (j_ [m_ [d_ (bu (ao (bu e)/ao d)),d_ (bu (ao (bu c)/ao d))],f_ M 0]))))))))))))))))):=U
def mr{a:List UInt8}(h:isNat a=true):bJ a [49]=true:=by
 unfold bJ
 rw[h,jz,il,p_];rfl
def Sv{a b:List UInt8}(ha:isNat a=true)(f:isNat b=true)(q:ao a<=2305843009213693952)(r:ao b<=2305843009213693952):af PP II 25 [.agg [.str a,.str [49]],.agg [.str b,.str [49]]] HP (.ret (.bK [.agg [.str (bu (ao a+ao b)),.str [49]],.int M 0]) HP):=by
 have ra:=mr ha
 have rb:=mr f
 have g:=jL (n:=ao a) O
 have i:=jL (n:=ao b) O
 have j:=jL (n:=ao a+ao b) O
 have t1:=jL (n:=1) O
 refine kz (ks:=[yM,U7,Ve,Mf,TY,Me]) (T:=[]) ?_
 rw[Su]
 generalize l:isNat (_::_)=c
 have d:c=true:=l.symm.trans jz
 generalize m:ao (_::_)=o
 have e:o=1:=m.symm.trans il
 clear l m
 subst d e
 have p:e_ (bu 1) [48]=false:=by rw[Ax (k:=0) ly];rfl
 simp only[cq,p_,E_,ha,f,g,i,j,t1,dc g,dc i,dc j,dc t1,k_,Nat.div_self Nat.one_pos]
 refine cC _ _ ra (cC _ _ A (cC _ _ rb (cC _ _ A (cC _ _ A (cC _ _ A (cC _ _ A (cC _ _ A (cC _ _ A (Zh (λh=>?_) λ_=>cC _ _ A (cC _ _ A (cC _ _ A (cC _ _ A λσ=>⟨⟨rfl,GR,trivial⟩,⟨rfl,rfl⟩,trivial⟩))))))))))))
 have h:e_ (bu 1) [48]=true:=h
 rw[p]at h;cases h
def Du:aC PP II:=aC.l8 25
 (λX args e=>match args with
  |[.agg [.str a,.str c],.agg [.str b,.str d]]=>X.ak (isNat a&&isNat b&&b_ (c=[49])&&b_ (d=[49])&&u_ (ao a) 2305843009213693952&&u_ (ao b) 2305843009213693952) (e (.bK [.agg [.str (bu (ao a+ao b)),.str [49]],.int M 0]))
  |_=>X.fail)
 λX sem hX args e h=>by
  split at h
  ·rename_i a c b d
   obtain⟨f,g⟩:=hX.ak _ _ h
   simp only[bf,bn]at f
   obtain⟨⟨⟨⟨⟨a1,a2⟩,rfl⟩,rfl⟩,i⟩,j⟩:=f
   exact⟨_,g,λ_=>rfl,λ_=>rfl,Sv a1 a2 (jX i) (jX j)⟩
  ·exact zR
def Wa:aC PP II:=aC.pure 157
 (λX args c=>match args with
  |[.ab k 1 f,.int M n]=>X.ak (jn k f&&b_ (0<=n)&&b_ (n<10000)) (c (jm (numOf k f*n.toNat)))
  |_=>X.fail)
 λX sem hX args c h=>by
  split at h
  ·rename_i k f n
   obtain⟨b,d⟩:=hX.ak _ _ h
   simp only[bf,bn]at b
   obtain⟨a1,a2⟩:=oD b.1.1
   exact⟨_,d,λ_=>rfl,λ_=>rfl,(Wn (a:=numOf k f) (n:=n.toNat) O (dw _) O).dq ⟨a1,⟨rfl,(Int.toNat_of_nonneg b.1.2).symm⟩,trivial⟩⟩
  ·exact zR
def Pb:aC PP II:=aC.pure 106
 (λX args c=>match args with
  |[.str a,.str b]=>X.ak (isNat a&&isNat b&&a_ 0 (ao b)&&a_ (ao b) 10000) (c (.bK [GQ false (ao a),.agg [.bool false,.ab 1 1 λ_=>[.int M (ao b:Nat)]],.bool true]))
  |_=>X.fail)
 λX sem hX args c h=>by
  split at h
  ·rename_i a b
   obtain⟨d,f⟩:=hX.ak _ _ h
   simp only[bf,q_]at d
   obtain⟨⟨⟨g,j⟩,c3⟩,k⟩:=d
   obtain⟨a1,a2,m⟩:=rF g
   obtain⟨n,o,p⟩:=rF j
   have:=L7 a2 o (by rw[a1,n];rfl)
   rw[m,p]at this
   have e:ar (ao b)=1:=by rw[rv O,show ao b/10000=0 by omega,eS]
   refine⟨_,f,λ_=>rfl,λ_=>rfl,this.le (ky.of [] (im.of A A A A A (gS.2 λl _=>trivial)) ⟨⟨rfl,mP _ _,trivial⟩,⟨rfl,⟨e,rfl,λi hi=>?_⟩,trivial⟩,rfl,trivial⟩)⟩
   rw[e]at hi
   rw[show i=0 by omega]
   exact⟨⟨rfl,show z (bF (ao b) 0)=((ao b:Nat):Int) by rw[sS,Nat.mod_eq_of_lt k];rfl⟩,trivial⟩
  ·exact zR
def Ps:aC PP II:=aC.pure 106
 (λX args c=>match args with
  |[.str a,.str b]=>X.ak (isNat a&&isNat b&&A_ (ao b) 0) (c (.bK [GQ false (ao a),.agg [.bool false,.ab 0 1 λ_=>[]],.bool true]))
  |_=>X.fail)
 λX sem hX args c h=>by
  split at h
  ·rename_i a b
   obtain⟨d,e⟩:=hX.ak _ _ h
   simp only[bf]at d
   obtain⟨⟨f,g⟩,c3⟩:=d
   have c3:=dE c3
   obtain⟨a1,a2,j⟩:=rF f
   obtain⟨k,m,n⟩:=rF g
   have:=L7 a2 m (by rw[a1,k];rfl)
   rw[j,n,c3]at this
   exact⟨_,e,λ_=>rfl,λ_=>rfl,this.le (ky.of [] (im.of A A A A A (gS.2 λl _=>trivial)) ⟨⟨rfl,mP _ _,trivial⟩,⟨rfl,⟨eS,rfl,λi hi=>absurd hi (by rw[eS];omega)⟩,trivial⟩,rfl,trivial⟩)⟩
  ·exact zR
def Hl:aC PP II:=aC.l8 111
 (λX args a=>match args with
  |[.agg [.bool false,.aw]]=>a (.bK [.str [48],.int M 0])
  |[.agg [.bool false,.ab 0 1 _]]=>a (.bK [.str [48],.int M 0])
  |_=>X.fail)
 λX sem hX args a h=>by
  have:=GK (b:=false) (v:=0) (by rw[eS];omega) (jX (jL (n:=0) O))
  rw[qH,show bu 0=[48]from ly]at this
  split at h
  ·exact⟨_,h,λ_=>rfl,λ_=>rfl,this.dq ⟨⟨rfl,eS,trivial⟩,trivial⟩⟩
  ·exact⟨_,h,λ_=>rfl,λ_=>rfl,this.dq ⟨⟨rfl,⟨eS.symm,rfl,λi hi=>absurd hi O⟩,trivial⟩,trivial⟩⟩
  ·exact zR
def Lu:aC PP II:=aC.pure 106
 (λX args a=>match args with
  |[.str [49],.str [49]]=>a (.bK [.agg [.bool false,.ab 1 1 λ_=>[.int M 1]],.agg [.bool false,.ab 1 1 λ_=>[.int M 1]],.bool true])
  |_=>X.fail)
 λX sem hX args a h=>by
  split at h
  ·obtain⟨c,b,d⟩:=rF jz
   have:=L7 b b (by rw[c];rfl)
   rw[d]at this
   have one:AV.le (λl=>l) (GQ false (ao [49])) (.agg [.bool false,.ab 1 1 λ_=>[.int M 1]]):=by
    refine⟨rfl,⟨?_,rfl,λi hi=>?_⟩,trivial⟩
    ·rw[il,rv O,show 1/10000=0 from rfl,eS]
    ·rw[il,rv O,show 1/10000=0 from rfl,eS]at hi
     rw[il,show i=0 by omega]
     exact⟨⟨rfl,rfl⟩,trivial⟩
   exact⟨_,h,λ_=>rfl,λ_=>rfl,this.le (ky.of [] (im.of A A A A A (gS.2 λl _=>trivial)) ⟨one,one,rfl,trivial⟩)⟩
  ·exact zR
def Sw(a b:List UInt8)(Q:AV -> Prop):(kp [Pb,Wa,zl,L9] [] 115 [.str a, .str b] Q) = (B (isNat a && isNat b && a_ (0:Nat) (ao b) && a_ (ao b) (10000:Nat)) (B (aN M (0:Int)) (B (jn (ar (ao a)) (aG (ao a)) && b_ ((0:Int) <= z (ao b)) && b_ (z (ao b) < (10000:Int))) (B (jn (ar (numOf (ar (ao a)) (aG (ao a)) * c_ (z (ao b)))) (aG (numOf (ar (ao a)) (aG (ao a)) * c_ (z (ao b))))) (B (aN M (-1:Int)) (B (jn (ar (numOf (ar (numOf (ar (ao a)) (aG (ao a)) * c_ (z (ao b)))) (aG (numOf (ar (ao a)) (aG (ao a)) * c_ (z (ao b)))))) (aG (numOf (ar (numOf (ar (ao a)) (aG (ao a)) * c_ (z (ao b)))) (aG (numOf
 (ar (ao a)) (aG (ao a)) * c_ (z (ao b)))))) && gI (numOf (ar (numOf (ar (numOf (ar (ao a)) (aG (ao a)) * c_ (z (ao b)))) (aG (numOf (ar (ao a)) (aG (ao a)) * c_ (z (ao b)))))) (aG (numOf (ar (numOf (ar (ao a)) (aG (ao a)) * c_ (z (ao b)))) (aG (numOf (ar (ao a)) (aG (ao a)) * c_ (z (ao b)))))))) (Q (j_ [d_ (xO false (numOf (ar (numOf (ar (numOf (ar (ao a)) (aG (ao a)) * c_ (z (ao b)))) (aG (numOf (ar (ao a)) (aG (ao a)) * c_ (z (ao b)))))) (aG (numOf (ar (numOf (ar (ao a)) (aG (ao a)) * c_ (z (ao b)))) (aG (numOf (ar (ao a)) (aG (ao a)) * c_ (z (ao b)))))))),f_ M (0:Int)])))))))) := by
 kernel_rfl
def Sy(a b:List UInt8)(Q:AV->Prop):(kp [Ps,Hl] [] 115 [.str a,.str b] Q)=(B (isNat a&&isNat b&&A_ (ao b) (0:Nat)) (B (aN M (-1:Int)) (Q (j_ [d_ [48],f_ M (0:Int)])))):=U
def P3(Q:AV->Prop):(kp [Lu,Hl] [] 50 [.str [49],.str [49]] Q)=(B (aN M 0) (B (aN M (-1:Int)) (B (aN M 2) (B (aN M 0) (B (aN M 0) (B (aN M 1) (B (aN M 0) (B (aN M 0) (B (bt.free [f_ M 0]&&true&&true) (Q (j_ [d_ [48],f_ M 0]))))))))))):=U
def ob(a b:List UInt8):List UInt8:=bu (ao a*ao b)
def Sz{a b:List UInt8}(ha:isNat a=true)(c:isNat b=true)(d:ao b<10000)(f:gI (ao a)=true)(ht:gI (ao a*ao b)=true):af PP II 115 [.str a,.str b] HP (.ret (.bK [.str (ob a b),.int M 0]) HP):=by
 obtain⟨a1,a2,g⟩:=rF ha
 rcases Nat.eq_zero_or_pos (ao b)with e|p
 ·refine kz (ks:=[Ps,Hl]) (T:=[]) ?_
  rw[Sy,ha,c]
  unfold ob
  rw[e,Nat.mul_zero]
  exactλσ=>⟨(show [48]=bu 0 from ly.symm),⟨rfl,rfl⟩,trivial⟩
 ·refine kz (ks:=[Pb,Wa,zl,L9]) (T:=[]) ?_
  rw[Sw,show c_ (z (ao b))=ao b from rfl]
  simp only[bZ,jo ht,jo f,ha,c,ht,qH,bW (show(0:Int)<=z (ao b)from Int.natCast_nonneg _),bW (show z (ao b)<10000 from(O:((ao b:Nat):Int)<10000)),show a_ 0 (ao b)=true from Nat.blt_eq.mpr p,show a_ (ao b) 10000=true from Nat.blt_eq.mpr d,k_]
  exactλσ=>⟨rfl,⟨rfl,rfl⟩,trivial⟩
def P4:af PP II 50 [.str [49],.str [49]] HP (.ret (.bK [.str [48],.int M 0]) HP):=by
 refine kz (ks:=[Lu,Hl]) (T:=[]) ?_
 rw[P3]
 exactλσ=>⟨rfl,⟨rfl,rfl⟩,trivial⟩
def DA:aC PP II:=aC.l8 115
 (λX args d=>match args with
  |[.str a,.str b]=>X.ak (isNat a&&isNat b&&a_ (ao b) 10000&&gI (ao a)&&gI (ao a*ao b)) (d (.bK [.str (ob a b),.int M 0]))
  |_=>X.fail)
 λX sem hX args d h=>by
  split at h
  ·obtain⟨c,e⟩:=hX.ak _ _ h
   simp only[bf,q_]at c
   exact⟨_,e,λ_=>rfl,λ_=>rfl,Sz c.1.1.1.1 c.1.1.1.2 c.1.1.2 c.1.2 c.2⟩
  ·exact zR
def QI:aC PP II:=aC.l8 50
 (λX args c=>match args with
  |[.str a,.str b]=>X.ak (b_ (a=[49])&&b_ (b=[49])) (c (.bK [.str [48],.int M 0]))
  |_=>X.fail)
 λX sem hX args c h=>by
  split at h
  ·obtain⟨d,e⟩:=hX.ak _ _ h
   simp only[bf,bn]at d
   obtain⟨rfl,rfl⟩:=d
   exact⟨_,e,λ_=>rfl,λ_=>rfl,P4⟩
  ·exact zR
def DB:aC PP II:=aC.l8 105
 (λX args d=>match args with
  |[.str a,.str b]=>X.ak (isNat a&&b_ (b=[49])) (d (.bK [.str [49],.int M 0]))
  |_=>X.fail)
 λX sem hX args d h=>by
  split at h
  ·obtain⟨c,e⟩:=hX.ak _ _ h
   simp only[bf,bn]at c
   obtain⟨c,rfl⟩:=c
   have:=TX c jz
   rw[il,p_,GR]at this
   exact⟨_,e,λ_=>rfl,λ_=>rfl,this⟩
  ·exact zR
def DC:aC PP II:=aC.l8 46
 (λX args d=>match args with
  |[.str a,.str b]=>X.ak (isNat a&&b_ (b=[49])) (d (.bK [.str a,.str [48],.int M 0]))
  |_=>X.fail)
 λX sem hX args d h=>by
  split at h
  ·obtain⟨c,e⟩:=hX.ak _ _ h
   simp only[bf,bn]at c
   obtain⟨c,rfl⟩:=c
   have:=TZ c jz (by rw[il];omega)
   rw[il,E_,Nat.mod_one,<-(iC c).1,show bu 0=[48]from ly]at this
   exact⟨_,e,λ_=>rfl,λ_=>rfl,this⟩
  ·exact zR
def SA(a b:List UInt8)(Q:AV->Prop):(kp [yM,DA,Mf,DB,DC] [] 22 [.agg [.str a,.str [49]],.agg [.str b,.str [49]]] Q)=(B (bJ a [49]) (B (aN M 1) (B (bJ b [49]) (B (aN M 2) (B (isNat a&&isNat b&&a_ (ao b) 10000&&gI (ao a)&&gI (ao a*ao b)) (B (isNat [49]&&isNat [49]&&a_ (ao [49]) 10000&&gI (ao [49])&&gI (ao [49]*ao [49])) (ah (e_ (ob [49] [49]) [48]) (Q (j_ [m_ [d_ [],d_ []],f_ M 40])) (B (isNat (ob [49] [49])&&a_ 0 (ao (ob [49] [49]))) (B (isNat (ob a b)&&b_ (ob [49] [49]=[49])) (B (isNat (ob a b)&&true) (B (isNat (ob [49] [49])&&true) (Q (j_ [m_ [d_ (ob a b),d_ (ob [49] [49])],f_ M 0]))))))))))))):=U
def SC(a:List UInt8)(Q:AV->Prop):(kp [yM,DA,Mf,DB,DC] [] 193 [.agg [.str a,.str [49]],.agg [.str [49],.str [49]]] Q)=(B (bJ a [49]) (B (aN M 1) (B (bJ [49] [49]) (B (aN M 2) (B (isNat a&&isNat [49]&&a_ (ao [49]) 10000&&gI (ao a)&&gI (ao a*ao [49])) (B (isNat [49]&&isNat [49]&&a_ (ao [49]) 10000&&gI (ao [49])&&gI (ao [49]*ao [49])) (ah (e_ (ob [49] [49]) [48]) (Q (j_ [m_ [d_ [],d_ []],f_ M 40])) (B (isNat (ob [49] [49])&&a_ 0 (ao (ob [49] [49]))) (B (isNat (ob a [49])&&b_ (ob [49] [49]=[49])) (B (isNat (ob a [49])&&true) (B (isNat (ob [49] [49])&&true) (Q (j_ [m_ [d_ (ob a [49]),d_ (ob [49] [49])],f_ M 0]))))))))))))):=U
def SF(Q:AV->Prop):(kp [yM,DA,QI,Mf,DB,DC] [] 21 [.agg [.str [49],.str [49]],.agg [.str [49],.str [49]]] Q)=(B (bJ [49] [49]) (B (aN M 1) (B (bJ [49] [49]) (B (aN M 2) (B (isNat [49]&&isNat [49]&&a_ (ao [49]) 10000&&gI (ao [49])&&gI (ao [49]*ao [49])) (B (isNat [49]&&isNat [49]&&a_ (ao [49]) 10000&&gI (ao [49])&&gI (ao [49]*ao [49])) (B (b_ (ob [49] [49]=[49])&&b_ (ob [49] [49]=[49])) (B (isNat [49]&&isNat [49]&&a_ (ao [49]) 10000&&gI (ao [49])&&gI (ao [49]*ao [49])) (ah (e_ (ob [49] [49]) [48]) (Q (j_ [m_ [d_ [],d_ []],f_ M 40])) (B (isNat (ob [49] [49])&&a_ 0 (ao (ob [49] [49]))) (B (isNat [48]&&b_ (ob [49] [49]=[49])) (B (isNat [48]&&true) (B (isNat (ob [49] [49])&&true) (Q (j_ [m_ [d_ [48],d_ (ob [49] [49])],f_ M 0]))))))))))))))):=U
def Wv(h:49<2^8):UInt8.ofBitVec (BitVec.ofFin ⟨49,h⟩)=49:=rfl
def Xj(h:48<2^8):UInt8.ofBitVec (BitVec.ofFin ⟨48,h⟩)=48:=rfl
def Bf:ob [49] [49]=[49]:=by unfold ob;rw[il];exact GR
def SG{a b:List UInt8}(ha:isNat a=true)(c:isNat b=true)(d:ao b<10000)(ht:ao a*ao b<9223372036854775808)(e:ao a<9223372036854775808):af PP II 22 [.agg [.str a,.str [49]],.agg [.str b,.str [49]]] HP (.ret (.bK [.agg [.str (bu (ao a*ao b)),.str [49]],.int M 0]) HP):=by
 refine kz (ks:=[yM,DA,Mf,DB,DC]) (T:=[]) ?_
 rw[SA]
 try rw[Wv]
 rw[Bf,mr ha,mr c,ha,c,jz,il,show isNat (ob a b)=true from dc (jL ht),jL e,jL ht,jL (n:=1) O,show a_ (ao b) 10000=true from Nat.blt_eq.mpr d]
 exactλσ=>⟨⟨rfl,rfl,trivial⟩,⟨rfl,rfl⟩,trivial⟩
def SY{a:List UInt8}(ha:isNat a=true)(b:ao a<9223372036854775808):af PP II 193 [.agg [.str a,.str [49]],.agg [.str [49],.str [49]]] HP (.ret (.bK [.agg [.str a,.str [49]],.int M 0]) HP):=by
 have e:ob a [49]=a:=by unfold ob;rw[il,r_];exact(iC ha).1.symm
 refine kz (ks:=[yM,DA,Mf,DB,DC]) (T:=[]) ?_
 rw[SC]
 try rw[Wv]
 rw[Bf,e,mr ha,mr jz,ha,jz,il,jL b,jL (n:=1) O,r_,jL b]
 exactλσ=>⟨⟨rfl,rfl,trivial⟩,⟨rfl,rfl⟩,trivial⟩
def SZ:af PP II 21 [.agg [.str [49],.str [49]],.agg [.str [49],.str [49]]] HP (.ret (.bK [.agg [.str [48],.str [49]],.int M 0]) HP):=by
 refine kz (ks:=[yM,DA,QI,Mf,DB,DC]) (T:=[]) ?_
 rw[SF]
 try rw[Wv]
 try rw[Xj]
 rw[Bf,mr jz,jz,il,jL (n:=1) O,show isNat [48]=true from by rw[<-ly];exact dc (jL (n:=0) O)]
 exactλσ=>⟨⟨rfl,rfl,trivial⟩,⟨rfl,rfl⟩,trivial⟩
def QL:aC PP II:=aC.l8 22
 (λX args f=>match args with
  |[.agg [.str a,.str c],.agg [.str b,.str d]]=>X.ak (isNat a&&isNat b&&b_ (c=[49])&&b_ (d=[49])&&u_ (ao a) 100000000&&a_ (ao b) 10000) (f (.bK [.agg [.str (bu (ao a*ao b)),.str [49]],.int M 0]))
  |_=>X.fail)
 λX sem hX args f h=>by
  split at h
  ·rename_i a c b d
   obtain⟨g,j⟩:=hX.ak _ _ h
   simp only[bf,bn,q_]at g
   obtain⟨⟨⟨⟨⟨a1,a2⟩,rfl⟩,rfl⟩,e⟩,i⟩:=g
   have e:=jX e
   have:=Nat.mul_le_mul e (h_ i)
   exact⟨_,j,λ_=>rfl,λ_=>rfl,SG a1 a2 i O O⟩
  ·exact zR
def Ed:aC PP II:=aC.l8 193
 (λX args e=>match args with
  |[.agg [.str a,.str c],.agg [.str b,.str d]]=>X.ak (isNat a&&b_ (c=[49])&&b_ (b=[49])&&b_ (d=[49])&&u_ (ao a) 100000000) (e (.bK [.agg [.str a,.str [49]],.int M 0]))
  |_=>X.fail)
 λX sem hX args e h=>by
  split at h
  ·rename_i a c b d
   obtain⟨f,i⟩:=hX.ak _ _ h
   simp only[bf,bn]at f
   obtain⟨⟨⟨⟨a1,rfl⟩,rfl⟩,rfl⟩,g⟩:=f
   have g:=jX g
   exact⟨_,i,λ_=>rfl,λ_=>rfl,SY a1 O⟩
  ·exact zR
def Q7:aC PP II:=aC.l8 21
 (λX args e=>match args with
  |[.agg [.str a,.str c],.agg [.str b,.str d]]=>X.ak (b_ (a=[49])&&b_ (c=[49])&&b_ (b=[49])&&b_ (d=[49])) (e (.bK [.agg [.str [48],.str [49]],.int M 0]))
  |_=>X.fail)
 λX sem hX args e h=>by
  split at h
  ·obtain⟨f,g⟩:=hX.ak _ _ h
   simp only[bf,bn]at f
   obtain⟨⟨⟨rfl,rfl⟩,rfl⟩,rfl⟩:=f
   exact⟨_,g,λ_=>rfl,λ_=>rfl,SZ⟩
  ·exact zR
def Mj(n d)(Q):(kp [YF] [] 73 [.int M n,.int M d] Q)=(B (b_ ((0:Int)<=n)&&b_ (n<(9223372036854775808:Int))&&b_ ((0:Int)<d)&&b_ (d<(9223372036854775808:Int))) (Q (m_ [d_ (bu (n.toNat/B_ n.toNat d.toNat)),d_ (bu (d.toNat/B_ n.toNat d.toNat))]))):=U
def Mk{n d:Nat}(hn:n<9223372036854775808)(c:d<9223372036854775808)(e:0<d):af PP II 73 [.int M n,.int M d] HP (.ret (kA n d) HP):=by
 refine kz (T:=[]) ((Mj n d _).mpr ?_)
 have a:c_ (n:Int)=n:=rfl
 have b:c_ (d:Int)=d:=rfl
 rw[a,b]
 refine Ze ?_ ?_
 grind
 ·exactλ_=>⟨rfl,rfl,trivial⟩
def Ml:aC PP II:=aC.l8 73
 (λX args a=>match args with
  |[.int M n,.int M d]=>X.ak (b_ (0<=n)&&aN M n&&b_ (0<d)&&aN M d) (a (kA n.toNat d.toNat))
  |_=>X.fail)
 λX sem hX args a h=>by
  split at h
  ·rename_i n d
   obtain⟨b,c⟩:=hX.ak _ _ h
   simp only[bf,bn,nK]at b
   refine⟨_,c,λ_=>rfl,λ_=>rfl,?_⟩
   have:=Mk (n:=n.toNat) (d:=d.toNat) O O O
   grind
  ·exact zR
end
end Go.Sx
