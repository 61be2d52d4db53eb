/- The proof of a statement of the seat, part 20. -/
import Derived.Test.YtoijalagmmgkbaaGreatDoorX19
import Derived.Shelf.GgSortFunc.Insertion
import Derived.Test.YtoijalagmmgkbaaGreatDoorX16
import Derived.Test.YtoijalagmmgkbaaGreatDoorX15
set_option linter.all false
set_option linter.defProp false
set_option maxRecDepth 1000000
namespace Go.Sx
open Go
open Int renaming ofNat->B,toNat->d_
open Go.IntKind renaming i64->z
open Decidable renaming decide->a_
open List renaming range->b_,getElem?_append_left->h_,range_succ->k_,beq->q_,take->s_,drop->t_,getElem?_toArray->u_
open AH renaming blank->c_
open Nat renaming blt->e_,pos_of_ne_zero->f_,div_le_self->l_,mod_lt->m_,mul_comm->n_,zero_mul->o_,le_of_lt->p_,blt_eq->r_,mul_le_mul_left->w_,gcd->z_,div_add_mod->A_,mul_assoc->B_,add_comm->D_,ble->E_,add_mul->F_,mul_pos->G_,zero_le->H_
open AV renaming int->g_,str->C_,az->I_
open Go.Value renaming int->i_
open Tr renaming ofList->j_
open Option renaming some->v_,none->y_
noncomputable section
def bw(a b c d:Nat):Int:=dU (a*d) (c*b)
def Mg(x y):dU y x= -dU x y:=by
 unfold dU
 omega
def Mh(x y k):dU (x+k) (y+k)=dU x y:=by
 unfold dU
 omega
def jU{x y}:dU x y=0↔x=y:=by
 unfold dU
 omega
def yN(x y):dU x y=1∨dU x y=0∨dU x y= -1:=by
 unfold dU
 omega
def Mi{a b c d}(e:0<b)(h:a/b<c/d):a*d<c*b:=by
 by_cases i:d=0
 grind
 ·have f:a<b*(a/b+1):=Nat.lt_mul_div_succ a e
  have g:(c/d)*d<=c:=Nat.div_mul_le_self c d
  have j:a*d<b*(a/b+1)*d:=Nat.mul_lt_mul_of_pos_right f O
  have k:b*(a/b+1)*d<=b*(c/d)*d:=Nat.mul_le_mul_right d (w_ b h)
  have l:b*(c/d)*d<=b*c:=by rw[B_];exact w_ b g
  grind
def rG{a b c d}(e:0<b)(f:0<d)(h:a/b≠c/d):bw a b c d=dU (a/b) (c/d):=by
 unfold bw
 rcases Nat.lt_or_gt_of_ne h with h1|h1
 ·have:=Mi (c:=c) (d:=d) e h1
  unfold dU
  omega
 ·have:=Mi (a:=c) (b:=d) (c:=a) (d:=b) f h1
  unfold dU
  omega
def Cl{a b c d}(h:a/b=c/d):bw a b c d=dU (a%b*d) (c%d*b):=by
 unfold bw
 have e:=A_ a b
 have f:=A_ c d
 have g:a*d=a%b*d+b*(a/b)*d:=by
  conv=>lhs;rw[<-e]
  rw[F_,D_]
 have i:c*b=c%d*b+b*(a/b)*d:=by
  conv=>lhs;rw[<-f]
  rw[F_,D_,h]
  congr 1
  rw[n_ (d*(c/d)) b,n_ d,<-B_]
 rw[g,i,Mh]
def oE{a b c d}(g:0<b)(i:0<d)(h:a/b=c/d):
  (a%b=0->c%d=0->bw a b c d=0)/\(a%b=0->c%d≠0->bw a b c d= -1)/\(a%b≠0->c%d=0->bw a b c d=1)/\(bw b (a%b) d (c%d)= -bw a b c d):=by
 rw[Cl h]
 refine⟨λe f=>?_,λe f=>?_,λe f=>?_,?_⟩
 ·rw[e,f,o_,o_];rfl
 ·rw[e,o_]
  have:0<c%d*b:=G_ O g
  unfold dU;rw[if_pos this]
 ·rw[f,o_]
  have:0<a%b*d:=G_ O i
  unfold dU;omega
 ·unfold bw
  rw[<-Mg,n_ b,n_ d]
def Cm(p:FP):FP:=⟨p.b,p.a%p.b,p.d,p.c%p.d,0-p.s⟩
def T4(p:FP):Prop:=gI p.a=true/\gI p.b=true/\gI p.c=true/\gI p.d=true/\0<p.b/\0<p.d/\(p.s=1∨p.s= -1)
def uW(v):q_ (bu v) [48]=Nat.beq v 0:=Ax ly
def EO{p0}(H:T4 p0):nJ PP II false (AA II 17 0) (Az II 17) 27 (EM p0) (EN (p0.s*bw p0.a p0.b p0.c p0.d)):=
 nJ.of (ι:=FP) iw [Me,Aw] (bm PP II []) 1000 27 0 (λp=>T4 p/\p.s*bw p.a p.b p.c p.d=p0.s*bw p0.a p0.b p0.c p0.d) EM (λ_=>EN (p0.s*bw p0.a p0.b p0.c p0.d)) (λp=>p.b) Cm p0 A U ⟨H,rfl⟩ λp I=>by
  obtain⟨a,b,c,d,s⟩:=p
  obtain⟨⟨ha,m,t,n,f,i,u⟩,k⟩:=I
  change gI a=true at ha
  change gI b=true at m
  change gI c=true at t
  change gI d=true at n
  change 0<b at f
  change 0<d at i
  change s=1∨s= -1 at u
  change s*bw a b c d=_ at k
  refine(IP a b c d s _ Cm _ A A A).mpr ?_
  have w:=dS (l_ a b) ha
  have y:=dS (l_ c d) t
  have C:=dS (p_ (m_ a f)) m
  have D:=dS (p_ (m_ c i)) n
  rw[cq,cq,cq,cq,cq,cq,dc ha,dc m,dc t,dc n,dc w,dc y,show e_ 0 b=true by simp_all,show e_ 0 d=true by simp_all]
  have l:aN z (0-s)=true:=by rcases u with rfl|rfl<;>rfl
  have go:a/b=c/d->a%b≠0->c%d≠0->T4 (Cm ⟨a,b,c,d,s⟩)/\(Cm ⟨a,b,c,d,s⟩).s*bw (Cm ⟨a,b,c,d,s⟩).a (Cm ⟨a,b,c,d,s⟩).b (Cm ⟨a,b,c,d,s⟩).c (Cm ⟨a,b,c,d,s⟩).d=p0.s*bw p0.a p0.b p0.c p0.d:=λo g j=>by
   refine⟨⟨m,C,n,D,f_ g,f_ j,?_⟩,?_⟩
   ·show 0-s=1∨0-s= -1
    omega
   ·show(0-s)*bw b (a%b) d (c%d)=_
    rw[(oE f i o).2.2.2,<-k,Int.zero_sub,Int.neg_mul_neg]
  have both:∀{x:Bool},x=true->x=false->False:=zA
  have E:b>a%b:=m_ a f
  with_reducible refine Ze A (Ze A (Ze A (Zh (λh=>?_) λh=>?_)))
  ·have F:a/b≠c/d:=λe=>by
    rw[jU.2 e]at h
    grind
   have e:=rG f i F
   refine Ze ?_ (Zf (by rw[<-e];exact k) trivial)
   rcases u with rfl|rfl<;>rcases yN (a/b) (c/d)with g|g|g<;>rw[g]<;>rfl
  ·have o:a/b=c/d:=by
    simp only[Bool.not_eq_false',bn]at h
    exact jU.1 h
   obtain⟨k1,k2,J,_⟩:=oE f i o
   have q:∀{v:Nat},q_ (bu v) [48]=true->v=0:=λ{v} h=>dE ((uW v).symm.trans h)
   have r:∀{v:Nat},q_ (bu v) [48]=false->v≠0:=λ{v} h e=>by
    have:=(uW v).symm.trans h
    simp_all
   with_reducible refine Zh (λg=>Zh (λj=>Zf ?_ trivial) (λj=>Zh (λ_=>Ze l (Zf ?_ trivial)) (λG=>(both g G).elim))) (λg=>Zh (λG=>(both G g).elim) (λ_=>Zh (λj=>Zf ?_ trivial) (λj=>Ze l (Ze ?_ (Zi ?_ (Zi ?_ (Zi ?_ (Zi ?_ (Zf ?_ ?_)))))))))
   ·rw[<-k,k1 (q g) (q j),Int.mul_zero]
   ·rw[<-k,k2 (q g) (r j)];omega
   ·rw[<-k,J (r g) (q j)];omega
   ·simp
   ·rfl
   ·rfl
   ·rfl
   ·rfl
   ·rfl
   ·exact⟨go o (r g) (r j),E,rfl⟩
def Qb{a b c d}(f:bJ (bu a) (bu b)=true)(g:bJ (bu c) (bu d)=true)(ha:gI a=true)(n:gI b=true)(u:gI c=true)(o:gI d=true)(j:0<b)(k:0<d):
  af PP II 17 [.agg [.str (bu a),.str (bu b)],.agg [.str (bu c),.str (bu d)]] HP (.ret (.int z (bw a b c d)) HP):=by
 refine kz (T:=[(500000,27,EM ⟨b,a%b,d,c%d,-1⟩,EN (bw a b c d))]) ((Qa a b c d (bw a b c d) ⟨b,a%b,d,c%d,-1⟩ _ A A A).mpr ?_)
 have p:=dS (l_ a b) ha
 have q:=dS (l_ c d) u
 have r:=dS (p_ (m_ a j)) n
 have s:=dS (p_ (m_ c k)) o
 rw[cq,cq,cq,cq,cq,cq,dc ha,dc n,dc u,dc o,dc p,dc q,show e_ 0 b=true by simp_all,show e_ 0 d=true by simp_all,f,g,Int.one_mul]
 have both:∀{x:Bool},x=true->x=false->False:=zA
 have i:∀{x:Int},x=bw a b c d->∀σ,AV.le σ (.int z x) (.int z (bw a b c d)):=λe _=>⟨rfl,e⟩
 with_reducible refine Ze A (Ze A (Ze A (Ze A (Ze A (Zh (λh=>?_) λh=>?_)))))
 ·have t:a/b≠c/d:=λe=>by
   rw[jU.2 e]at h
   grind
  refine Ze ?_ (i (rG j k t).symm)
  rcases yN (a/b) (c/d)with f|f|f<;>rw[f]<;>rfl
 ·have w:a/b=c/d:=by
   simp only[Bool.not_eq_false',bn]at h
   exact jU.1 h
  obtain⟨k1,k2,y,D⟩:=oE j k w
  have l:∀{v:Nat},q_ (bu v) [48]=true->v=0:=λ{v} h=>dE ((uW v).symm.trans h)
  have m:∀{v:Nat},q_ (bu v) [48]=false->v≠0:=λ{v} h e=>by
   have:=(uW v).symm.trans h
   simp_all
  with_reducible refine Zh (λf=>Zh (λg=>?_) (λg=>Zh (λ_=>Ze ?_ ?_) (λC=>(both f C).elim))) (λf=>Zh ZD (λ_=>Zh (λg=>?_) (λg=>Ze ?_ (Ze ?_ ⟨?_,Zi ?_ (Zi ?_ (Zi ?_ (Zi ?_ (Zf ?_ ?_))))⟩))))
  ·exact i (k1 (l f) (l g)).symm
  ·rfl
  ·exact i (k2 (l f) (m g)).symm
  ·exact i (y (m f) (l g)).symm
  ·rfl
  ·simp
  ·have:=EO (p0:=⟨b,a%b,d,c%d,-1⟩) ⟨n,r,o,s,f_ (m f),f_ (m g),.inr A⟩
   grind
  all_goals grind
def Cn{a b}(h:bJ a b=true):a=bu (Zt a)/\b=bu (Zt b)/\gI (Zt a)=true/\gI (Zt b)=true/\0<Zt b:=by
 have f:=h
 unfold bJ at h
 simp only[bf]at h
 obtain⟨⟨⟨c,d⟩,e⟩,_⟩:=h
 rw[r_]at e
 exact⟨(iC c).1,(iC d).1,(iC c).2,(iC d).2,e⟩
def j8:aC PP II:=aC.l8 17
 (λX args f=>match args with
  |[.agg [.str a,.str b],.agg [.str c,.str d]]=>X.ak (bJ a b&&bJ c d) (f (.int z (bw (Zt a) (Zt b) (Zt c) (Zt d))))
  |_=>X.fail)
 λX sem hX args f h=>by
  split at h
  ·rename_i a b c d
   obtain⟨e,g⟩:=hX.ak _ _ h
   simp only[bf]at e
   obtain⟨n,o,i,j,k⟩:=Cn e.1
   obtain⟨f1,p,l,m,f5⟩:=Cn e.2
   refine⟨_,g,λ_=>rfl,λ_=>rfl,?_⟩
   have:=Qb Y Y i j l m k f5
   grind
  ·exact zR
def Mj(n d)(Q):(kp [YF] [] 73 [.int z n,.int z d] Q)=(aa (a_ ((0:Int)<=n)&&a_ (n<(9223372036854775808:Int))&&a_ ((0:Int)<d)&&a_ (d<(9223372036854775808:Int))) (Q (AV.agg [C_ (bu (n.toNat/z_ n.toNat d.toNat)),C_ (bu (d.toNat/z_ n.toNat d.toNat))]))):=U
def Mk{n d:Nat}(c:n<9223372036854775808)(e:d<9223372036854775808)(f:0<d):af PP II 73 [.int z n,.int z d] HP (.ret (kA n d) HP):=by
 refine kz (T:=[]) ((Mj n d _).mpr ?_)
 have a:d_ (n:Int)=n:=rfl
 have b:d_ (d:Int)=d:=rfl
 rw[a,b]
 refine Ze ?_ ?_
 grind
 ·exactλ_=>⟨rfl,rfl,trivial⟩
def Ml:aC PP II:=aC.l8 73
 (λX args a=>match args with
  |[.int z n,.int z d]=>X.ak (a_ (0<=n)&&aN z n&&a_ (0<d)&&aN z d) (a (kA n.toNat d.toNat))
  |_=>X.fail)
 λX sem hX args a h=>by
  split at h
  ·rename_i n d
   obtain⟨b,c⟩:=hX.ak _ _ h
   simp only[bf,bn,nK]at b
   refine⟨_,c,λ_=>rfl,λ_=>rfl,?_⟩
   have:=Mk (n:=n.toNat) (d:=d.toNat) O O O
   grind
  ·exact zR
def IQ(k:Nat)(W C:Nat->Int)(i:Nat):St:={t:=j_ [(3,.int z (C i)),(6,.az k 1 (ae W)),(7,.int z (B k)),(8,.int z (B i))],nt:=17,H:=c_ 12,df:=[]}
def IR(v:Int):GE:=.one (.x 0 {t:=j_ [(3,.int z v)],nt:=17,H:=c_ 12,df:=[]})
def IS(k)(W C)(i)(Q):(kr [] [] 338 3001 12 (IQ k W C) (λ_=>IR (C k)) (λi=>i+1) Q i)=(ah (a_ (B i<B k)) (aa (a_ (0<=B i)&&a_ (B i<B k)) (aa (aN z (C i+W (d_ (B i)))) (aa (aN z (B i+1)) (zyI (B k) (aH (C i+W (d_ (B i))) (C (i+1)) (aH (B i+1) (B (i+1)) (zyN k (zyR k (ae W) Q)))))))) (aH (C i) (C k) True)):=U
def Qc(k)(W C)(Q):(kb [] [(3001,12,IQ k W C 0,IR (C k))] 338 [.az k 1 (ae W)] Q)=(Zu PP II false (aD II (338:Nat) (3001:Nat)) (12:Nat) (IQ k W C (0:Nat)) (IR (C k))/\zyI (B k) (aH (0:Int) (C (0:Nat)) (zyN k (zyR k (ae W) (Q (g_ z (C k))))))):=U
def Mm(n)(Q):(kp [Ml] [] 336 [.int z n] Q)=(aa (a_ ((0:Int)<=n)&&aN z n&&true&&aN z (1:Int)) (Q (AV.agg [C_ (bu (n.toNat/z_ n.toNat (1:Nat))),C_ (bu ((1:Nat)/z_ n.toNat (1:Nat)))]))):=U
def du(W:Nat->Int):Nat->Int
 |0=>0
 |i+1=>du W i+W i
def iu(k:Nat)(f:Nat->List AV):Bool:=bA k f&&E_ k 1000000000000&&(b_ (k+1)).all λi=>aN z (du (aM f) i)
def IT{k W}(d:k<=1000000000000)(b:∀i,i<=k->aN z (du W i)=true):Zu PP II false (aD II 338 3001) 12 (IQ k W (du W) 0) (IR (du W k)):=
 Zu.of (ι:=Nat) iw [] (bm PP II []) 1000 12 (λi=>i<=k) (IQ k W (du W)) (λ_=>IR (du W k)) (λi=>k-i) (λi=>i+1) 0 A (H_ _) λi hi=>by
  have c:an k (ae W) (ae W):=Zj λ_ _=>Zy _ _ _
  refine(IS k W _ i _).mpr (Zh (λh=>?_) λh=>?_)
  ·have a:i<k:=by simp only[bn]at h;exact Int.ofNat_lt.1 h
   refine Ze zI (Ze (b (i+1) a) (Ze (aq Y Y) ?_))
   exact Zf A (Zf A (Zf A (YG A Y)))
  ·have a:i=k:=by
    simp only[iK]at h
    have :¬ i<k:=ZD
    omega
   subst a
   exact Zf A trivial
def Qd{k W}(a:k<=1000000000000)(b:∀i,i<=k->aN z (du W i)=true):af PP II 338 [.az k 1 (ae W)] (c_ 12) (.ret (.int z (du W k)) (c_ 12)):=
 bY (T:=[(3001,12,IQ k W (du W) 0,IR (du W k))]) (λ_=>⟨rfl,rfl⟩) ((Qc k W _ _).mpr ⟨IT a b,Zf A (Zf A (YG A ⟨Zj λ_ _=>Zy _ _ _,rfl⟩))⟩)
def mQ{k f}(h:iu k f=true):bA k f=true/\k<=1000000000000/\∀i,i<=k->aN z (du (aM f) i)=true:=by
 unfold iu at h
 simp only[bf]at h
 exact⟨h.1.1,ZD,λi hi=>Y⟩
def SI:aC PP II:=aC.pure 338
 (λX args a=>match args with
  |[.az k 1 f]=>X.ak (iu k f) (a (.int z (du (aM f) k)))
  |_=>X.fail)
 λX sem hX args a h=>by
  split at h
  ·obtain⟨b,c⟩:=hX.ak _ _ h
   obtain⟨d,e,g⟩:=mQ b
   exact⟨_,c,λ_=>rfl,λ_=>rfl,(Qd e g).dq ⟨cy d,trivial⟩⟩
  ·exact zR
def Mn{n:Nat}(b:n<9223372036854775808):af PP II 336 [.int z n] HP (.ret (kA n 1) HP):=by
 refine kz (T:=[]) ((Mm n _).mpr ?_)
 have a:d_ (n:Int)=n:=rfl
 rw[a]
 refine Ze ?_ ?_
 ·rw[bW (Int.natCast_nonneg n),aq (n:=(n:Int)) O O];rfl
 ·exactλ_=>⟨rfl,rfl,trivial⟩
def AB:aC PP II:=aC.l8 336
 (λX args a=>match args with
  |[.int z n]=>X.ak (a_ (0<=n)&&aN z n) (a (kA n.toNat 1))
  |_=>X.fail)
 λX sem hX args a h=>by
  split at h
  ·rename_i n
   obtain⟨b,c⟩:=hX.ak _ _ h
   simp only[bf,bn,nK]at b
   refine⟨_,c,λ_=>rfl,λ_=>rfl,?_⟩
   have:=Mn (n:=n.toNat) O
   grind
  ·exact zR
def Kg(k:Nat)(W C:Nat->Int)(i:Nat):St:={t:=j_ [(0,.az k 1 (ae W)),(3,.int z (C i)),(4,.int z (B i))],nt:=25,H:=c_ 12,df:=[]}
def Kh(v:Int):GE:=.one (.x 0 {t:=j_ [(3,.int z v)],nt:=25,H:=c_ 12,df:=[]})
def IU(k)(W C)(i)(Q):(kr [] [] 148 5004 12 (Kg k W C) (λ_=>Kh (C k)) (λi=>i+1) Q i)=(ah (a_ (B i<B k)) (aa (a_ (0<=B i)&&a_ (B i<B k)) (aa (aN z (B i+1)) (aH (if W (d_ (B i))>C i then W (d_ (B i))else C i) (C (i+1)) (zyN k (zyR k (ae W) (aH (B i+1) (B (i+1)) Q)))))) (aH (C i) (C k) True)):=U
def Qe(k)(W C)(Q):(kb [] [(5004,12,Kg k W C 1,Kh (C k))] 148 [.az k 1 (ae W)] Q)=(ah (a_ (B k<1)) False (aa (a_ (0<B k)) (Zu PP II false (aD II 148 5004) 12 (Kg k W C 1) (Kh (C k))/\aH (W 0) (C 1) (zyN k (zyR k (ae W) (Q (g_ z (C k)))))))):=U
def IV(k)(W C)(i)(Q):(kr [] [] 147 5004 12 (Kg k W C) (λ_=>Kh (C k)) (λi=>i+1) Q i)=(ah (a_ (B i<B k)) (aa (a_ (0<=B i)&&a_ (B i<B k)) (aa (aN z (B i+1)) (aH (if W (d_ (B i))<C i then W (d_ (B i))else C i) (C (i+1)) (zyN k (zyR k (ae W) (aH (B i+1) (B (i+1)) Q)))))) (aH (C i) (C k) True)):=U
def Qf(k)(W C)(Q):(kb [] [(5004,12,Kg k W C 1,Kh (C k))] 147 [.az k 1 (ae W)] Q)=(ah (a_ (B k<1)) False (aa (a_ (0<B k)) (Zu PP II false (aD II 147 5004) 12 (Kg k W C 1) (Kh (C k))/\aH (W 0) (C 1) (zyN k (zyR k (ae W) (Q (g_ z (C k)))))))):=U
def cG(W:Nat->Int):Nat->Int
 |0=>W 0
 |i+1=>if W i>cG W i then W i else cG W i
def IW{k W}(d:k<=1000000000000)(c:0<k):Zu PP II false (aD II 148 5004) 12 (Kg k W (cG W) 1) (Kh (cG W k)):=
 Zu.of (ι:=Nat) iw [] (bm PP II []) 1000 12 (λi=>i<=k) (Kg k W (cG W)) (λ_=>Kh (cG W k)) (λi=>k-i) (λi=>i+1) 1 A c λi hi=>by
  have a:an k (ae W) (ae W):=Zj λ_ _=>Zy _ _ _
  refine(IU k W _ i _).mpr (Zh (λh=>?_) λh=>?_)
  ·have b:i<k:=by simp only[bn]at h;exact Int.ofNat_lt.1 h
   refine Ze zI (Ze (aq Y Y) ?_)
   exact Zf A (YG A ⟨a,Zf A Y⟩)
  ·have b:i=k:=by
    simp only[iK]at h
    have :¬ i<k:=ZD
    omega
   subst b
   exact Zf A trivial
def Qg{k W}(a:k<=1000000000000)(b:0<k):af PP II 148 [.az k 1 (ae W)] (c_ 12) (.ret (.int z (cG W k)) (c_ 12)):=
 bY (T:=[(5004,12,Kg k W (cG W) 1,Kh (cG W k))]) (λ_=>⟨rfl,rfl⟩) ((Qe k W _ _).mpr (Zh (λh=>by
  grind) λ_=>Ze Y ⟨IW a b,Zf (by
   show W 0=if W 0>W 0 then W 0 else W 0
   split<;>rfl) (YG A ⟨Zj λ_ _=>Zy _ _ _,rfl⟩)⟩))
def Mo:aC PP II:=aC.pure 148
 (λX args b=>match args with
  |[.az k 1 f]=>X.ak (bA k f&&E_ k 1000000000000&&e_ 0 k) (b (.int z (cG (aM f) k)))
  |_=>X.fail)
 λX sem hX args b h=>by
  split at h
  ·obtain⟨a,c⟩:=hX.ak _ _ h
   simp only[bf,r_]at a
   exact⟨_,c,λ_=>rfl,λ_=>rfl,(Qg ZD a.2).dq ⟨cy a.1.1,trivial⟩⟩
  ·exact zR
def jc(W:Nat->Int):Nat->Int
 |0=>W 0
 |i+1=>if W i<jc W i then W i else jc W i
def IX{k W}(d:k<=1000000000000)(c:0<k):Zu PP II false (aD II 147 5004) 12 (Kg k W (jc W) 1) (Kh (jc W k)):=
 Zu.of (ι:=Nat) iw [] (bm PP II []) 1000 12 (λi=>i<=k) (Kg k W (jc W)) (λ_=>Kh (jc W k)) (λi=>k-i) (λi=>i+1) 1 A c λi hi=>by
  have a:an k (ae W) (ae W):=Zj λ_ _=>Zy _ _ _
  refine(IV k W _ i _).mpr (Zh (λh=>?_) λh=>?_)
  ·have b:i<k:=by simp only[bn]at h;exact Int.ofNat_lt.1 h
   refine Ze zI (Ze (aq Y Y) ?_)
   exact Zf A (YG A ⟨a,Zf A Y⟩)
  ·have b:i=k:=by
    simp only[iK]at h
    have :¬ i<k:=ZD
    omega
   subst b
   exact Zf A trivial
def Qh{k W}(a:k<=1000000000000)(b:0<k):af PP II 147 [.az k 1 (ae W)] (c_ 12) (.ret (.int z (jc W k)) (c_ 12)):=
 bY (T:=[(5004,12,Kg k W (jc W) 1,Kh (jc W k))]) (λ_=>⟨rfl,rfl⟩) ((Qf k W _ _).mpr (Zh (λh=>by
  grind) λ_=>Ze Y ⟨IX a b,Zf (by
   show W 0=if W 0<W 0 then W 0 else W 0
   split<;>rfl) (YG A ⟨Zj λ_ _=>Zy _ _ _,rfl⟩)⟩))
def SJ:aC PP II:=aC.pure 147
 (λX args b=>match args with
  |[.az k 1 f]=>X.ak (bA k f&&E_ k 1000000000000&&e_ 0 k) (b (.int z (jc (aM f) k)))
  |_=>X.fail)
 λX sem hX args b h=>by
  split at h
  ·obtain⟨a,c⟩:=hX.ak _ _ h
   simp only[bf,r_]at a
   exact⟨_,c,λ_=>rfl,λ_=>rfl,(Qh ZD a.2).dq ⟨cy a.1.1,trivial⟩⟩
  ·exact zR
section
open Go.Proofs Go.Sort
def lz(n:Nat)(W:Nat->Int):AH:={n:=13,t:=j_ [(12,.rows n 1 (ae W) (.ty 3))]}
def jd(n:Nat)(W:Nat->Int):List Value:=(b_ n).map λi=> .int z (W i)
def oF{ρ}:∀{a b vs},aU ρ (a++b) vs->∃us ws,vs=us++ws/\aU ρ a us/\aU ρ b ws
 |[],_,vs,h=>⟨[],vs,rfl,rfl,h⟩
 |_::_,_,_,⟨u,us,e,h1,c⟩=>by
  obtain⟨x,y,rfl,d,f⟩:=oF c
  exact⟨u::x,y,e,⟨u,x,rfl,h1,d⟩,f⟩
def Co{ρ W}:∀{n vs},aU ρ (rowsOf n (ae W)) vs->vs=jd n W
 |0,vs,h=>h
 |n+1,vs,h=>by
  rw[show rowsOf (n+1) (ae W)=rowsOf n (ae W)++[.int z (W n)] by simp[rowsOf,ae,k_]]at h
  obtain⟨us,ws,rfl,b,u,c,rfl,a,rfl⟩:=oF h
  rw[Co b]
  have a:u= .int z (W n):=a
  rw[a]
  simp[jd,k_]
def Cp{ρ W}:∀(n),aU ρ (rowsOf n (ae W)) (jd n W)
 |0=>rfl
 |n+1=>by
  rw[show rowsOf (n+1) (ae W)=rowsOf n (ae W)++[.int z (W n)] by simp[rowsOf,ae,k_],show jd (n+1) W=jd n W++[.int z (W n)] by simp[jd,k_]]
  exact(Cp n).append ⟨_,[],rfl,rfl,rfl⟩
def xP{n W a}(rest):putCells (i_ z) 0 ((b_ n).map a).toArray (jd n W++rest).toArray=(jd n a++rest).toArray:=by
 have hl:(jd n W).length=n:=by simp[jd]
 have b:(jd n a).length=n:=by simp[jd]
 apply Array.ext_getElem?
 intro k
 simp only[putCells,Array.getElem?_mapIdx,u_]
 by_cases hk:k<n
 ·rw[h_ O,h_ O]
  simp[jd,hk]
 grind
def af.Qi{P:Program}{I:ba}{f g:FuncId}{n:Nat}{W a:Nat->Int}(T:0<n)(G:∀(vs:Array Value)(w:World),(callFunc f vs).run P w= .ok (.enter f vs) w)
  (h:∀(r cap:Nat)(w:World),Holds (i_ z) w r 0 ((b_ n).map W).toArray->r<w.heap.size->Calls P f #[.slice (v_ ⟨r,0,y_⟩) n cap,.func (.func g) #[] #[]] w λe w'=>e= .returned (.tuple #[])/\∃m os,w'=sortWorld (i_ z) w r 0 m ((b_ n).map a).toArray os):
  af P I f [.own 12 n 1,.fn g [] []] (lz n W) (.ret (.bK []) (lz n a)):=by
 intro c ρ w vs hG d D
 obtain⟨u,us,rfl,H,U,J,rfl,K,rfl⟩:=d
 obtain⟨a1,a2,rfl,s,t⟩:=K
 have s:a1=[]:=s
 have t:a2=[]:=t
 subst s t
 rcases H with⟨e,_⟩|⟨b,N,cap,E,rfl,L,M⟩
 ·omega
 have l:bp ρ w (ρ 12) (.rows n 1 (ae W) (.ty 3)):=D.dF 12
 have y:((lz n W).get 12).rw=true:=rfl
 rw[E]at l
 rcases l.2 with⟨_,e⟩|⟨V,X,vs,rest,el,fr,h1,o,Q,R,F,Y,Z⟩
 ·cases e
 cases h1
 cases Co R
 have C:b<w.heap.size:=(Array.getElem?_eq_some_iff.1 o).1
 have hl:(jd n W).length=n:=by simp[jd]
 have S:Holds (i_ z) w b 0 ((b_ n).map W).toArray:=by
  intro j q
  have q:j<n:=by simpa using q
  refine⟨?_,?_⟩
  ·show(match w.heap[b]? with|some (.cells c _ _)=>_|_=>_)=_
   rw[o]
   show(jd n W++rest).toArray[0+j]? =v_ (i_ z (((b_ n).map W).toArray)[j]!)
   rw[Nat.zero_add,u_,h_ (by rw[hl];exact q)]
   simp[jd,q]
  ·show(match w.heap[b]? with|some (.cells _ _ (lo,hi))=>_|_=>_)=_
   rw[o]
   obtain⟨lo,hi⟩:=fr
   have h8:=F.w A j O
   grind
 refine .inl ⟨G _ _,(h b cap w S C).mono ?_⟩
 rintro e w' ⟨rfl,m,os,rfl⟩
 have ht:Rel c ρ ((lz n W).set 12 (.rows n 1 (ae a) (.ty 3))) (putRow (i_ z) (Sort.ahead w m) b 0 ((b_ n).map a).toArray):=by
  refine D.fC _ y E (λk l=>?_) ?_ A A A ?_
  ·show(w.heap.modify b _)[k]? =_
   grind
  ·simp
  ·refine⟨λ_ _=>rfl,.inr ⟨b,N,jd n a,rest,el,fr,rfl,?_,?_,Cp n,F,?_,λe=>zG⟩⟩
   ·show(w.heap.modify b _)[b]? =_
    rw[Array.getElem?_modify,if_pos A,o]
    show v_ (Obj.cells _ _ _)=_
    rw[xP]
   ·rw[<-Q];simp[jd]
   ·intro v d
    simp only[jd,List.mem_map]at d
    obtain⟨i,_,rfl⟩:=d
    rfl
 refine⟨ρ,Ext.refl ρ,(ht.under (w':=sortWorld (i_ z) w b 0 m ((b_ n).map a).toArray os) ⟨rfl,rfl,rfl,?_,λk l=>?_⟩).congr A (λi=>?_),⟨[],rfl,rfl⟩⟩
 ·show _<=(_++os).size
  simp
 ·show(_++os)[k]? =_
  grind
 rfl
end
def oG:Nat->List AV->Bool
 |0,[]=>true
 |w+1,.int z i::cs=>aN z i&&oG w cs
 |_,_=>false
def aI(w n:Nat)(f:Nat->List AV):Bool:=(b_ n).all λi=>oG w (f i)
def bV(cs:List AV)(k:Nat):Int:=match cs.getD k .any with| .int z i=>i|_=>0
abbrev gF:aC PP II:=v8 88 (.inr A)
def ma(a:Int):Int:=match a_ (1+av a 11>8)with|true=>8|false=>1+av a 11
def au(X:Nat->Nat->Int)(j:Nat):List AV:=[.int z (X j 0),.int z (X j 1),.int z (X j 2)]
def Vl(n:Nat)(X:Nat->Nat->Int):AV:=.az n 3 (au X)
def cW(X:Nat->Nat->Int)(j:Nat)(k:Nat):Int:=match k with|0=>ma (X j 0)|1=>1+av (X j 1) 4|_=>av (X j 2) 40-1
def Vm(n:Nat)(X:Nat->Nat->Int)(C:Nat->Nat->Int)(i:Int)(m:Nat):St:={t:=j_ [(0,Vl n X),(3,.own 12 m 3),(4,.int z i)],nt:=45,H:={n:=13,t:=j_ [(12,.rows m 3 (au C) (.ty 79))]},df:=[]}
def WI(n:Nat)(X:Nat->Nat->Int)(C:Nat->Nat->Int)(i:Int)(m:Nat):GE:=.one (.x 0 (Vm n X C i m))
def EP(n)(X C)(i l o)(m e k)(Q):(kr (ι:=Int×Nat) [gF] [] 87 3008 12 (λp=>Vm n X C p.1 p.2) (λ_=>WI n X C o k) (λ_=>(l,e)) Q (i,m))=(let b:=(a_ (0<=i)&&a_ (i<B n));let f:=(ax m k (zyR m (au C) (ax m k (zyN n (zyR n (au X) (aH i o True))))));let c:=(av (X i.toNat 2) 40-1);let d:=(1+av (X i.toNat 1) 4);let g:=(a_ (m<=m)&&true&&true&&a_ ((m+1)*24<=140737488355328)&&true);let h:=(zyN n (zyR n (au X) (aH (i+1) l Q)));let j:=(a_ (X i.toNat 2=X i.toNat 2));(ah (a_ (i<B n)) (ah (a_ (i<6)) (aa b (aa (aN z (X i.toNat 0)&&true) (aa (aN z (1+av (X i.toNat 0) 11)) (ah (a_ (1+av (X i.toNat 0) 11>8)) (aa b (aa (aN z (X i.toNat 1)&&true) (aa (aN z d) (aa b (aa j (aa (aN z (X i.toNat 2)&&true) (aa (aN z c) (aa g (aa (aN z (i+1)) (ax (m+1) e (an (m+1) (λa=>bif e_ a m then au C a else s_ 3 (t_ (0+(a-m)*3) [g_ z 8,g_ z d,g_ z c])) (au C)/\ax (m+1) e h))))))))))) (aa b (aa (aN z (X i.toNat 1)&&true) (aa (aN z d) (aa b (aa j (aa (aN z (X i.toNat 2)&&true) (aa (aN z c) (aa g (aa (aN z (i+1)) (ax (m+1) e (an (m+1) (λa=>bif e_ a m then au C a else s_ 3 (t_ (0+(a-m)*3) [g_ z (1+av (X i.toNat 0) 11),g_ z d,g_ z c])) (au C)/\ax (m+1) e h))))))))))))))) f) f)):=U
def Mp(n)(X C)(b)(a)(Q):(kb [] [(3008,12,Vm n X C 0 0,WI n X C b a)] 87 [Vl n X] Q)=(Zu PP II false (aD II 87 3008) 12 {t:=.n (.n (.n .e (v_ (AV.own 12 0 3)) .e) y_ .e) (v_ (I_ n 3 (au X))) (.n (.n .e (v_ (g_ z 0)) .e) y_ .e),nt:=45,H:={n:=13,t:=.n .e y_ (.n (.n .e y_ (.n .e (v_ (Zv.rows 0 3 (au C) (Access.ty 79))) .e)) y_ .e)},df:=[]} (GE.one (aQ.x 0 {t:=.n (.n (.n .e (v_ (AV.own 12 a 3)) .e) y_ .e) (v_ (I_ n 3 (au X))) (.n (.n .e (v_ (g_ z b)) .e) y_ .e),nt:=45,H:={n:=13,t:=.n .e y_ (.n (.n .e y_ (.n .e (v_ (Zv.rows a 3 (au C) (Access.ty 79))) .e)) y_ .e)},df:=[]}))/\zyN n (zyR n (au X) (aa ((List.all (List.range.loop a []) λi=>true)&&a_ (a<=a)) (Q (I_ a 3 (au C)))))):=U
def jq(X)(σ)(j):bt.le σ (au X j) (au X j):=⟨⟨rfl,rfl⟩,⟨rfl,rfl⟩,⟨rfl,rfl⟩,trivial⟩
def bC(n)(X):an n (au X) (au X):=Zj λσ j=>jq X σ j
def Mq{m g C}(h:∀j,j<m->g j=au C j):an m g (au C):=λj a σ=>by rw[h j a];exact jq C σ j
def WJ(X:Nat->Nat->Int)(j:Nat):Prop:=aN z (X j 0)=true/\aN z (X j 1)=true/\aN z (X j 2)=true
def IY{m k C r}(d:r.length=3)(c:r=au C m)(e:k=m+1):
  an k (λj=>bif e_ j m then au C j else s_ 3 (t_ (0+(j-m)*3) r)) (au C):=by
 refine Mq λj a=>?_
 by_cases h:j<m
 ·simp only[(r_ ..).mpr h,cond_true]
 ·have a:j=m:=by omega
  have b:e_ j m=false:=by
   cases b:e_ j m with
   |false=>rfl
   |true=>simp_all
  simp only[b,cond_false]
  rw[a,Nat.sub_self,<-c]
  grind
def EQ(n)(X)(hx:∀j,j<n->WJ X j):Zu PP II false (aD II 87 3008) 12 (Vm n X (cW X) 0 0) (WI n X (cW X) (min n 6:Nat) (min n 6)):=
 Zu.of (ι:=Int×Nat) iw [gF] (bm PP II []) 1000 12 (λp=>p.1=(p.2:Int)/\p.2<=min n 6) (λp=>Vm n X (cW X) p.1 p.2) (λ_=>WI n X (cW X) (min n 6:Nat) (min n 6)) (λp=>min n 6-p.2) (λp=>(p.1+1,p.2+1)) (0,0) A ⟨rfl,H_ _⟩ λp g=>by
  obtain⟨i,m⟩:=p
  obtain⟨k,l⟩:=g
  simp only at k l
  have o:((min n 6:Nat):Int)=((min n 6:Nat):Int):=rfl
  have q:min n 6<=n/\min n 6<=6:=O
  have s:min n 6=n∨min n 6=6:=O
  generalize min n 6=N at*
  generalize hN:(N:Int)=d at*
  refine(EP n X (cW X) i (i+1) d m (m+1) N _).mpr ?_
  have D:B n=(n:Int):=rfl
  have t:d_ i=m:=O
  rw[t]
  have done:i=d->ax m N (an m (au (cW X)) (au (cW X))/\ax m N (ax n n (an n (au X) (au X)/\aH i d True))):=λh=>YG O ⟨bC _ _,YG O (YG A ⟨bC _ _,Zf h trivial⟩)⟩
  refine Zg (λha=>Zg (λu=>?_) λu=>done O) λha=>done O
  obtain⟨v,w,x⟩:=hx m O
  have p0:=cj (c:=X m 0) (n:=11) O
  have E:=cj (c:=X m 1) (n:=4) O
  have F:=cj (c:=X m 2) (n:=40) O
  have b:(a_ (0<=i)&&a_ (i<B n))=true:=by simp only[bf,bn];omega
  have hi:aN z (i+1)=true:=aq O O
  have y:(a_ (m<=m)&&true&&true&&a_ ((m+1)*24<=140737488355328)&&true)=true:=by simp only[bf,Bool.and_true,bn];omega
  have e:∀{r:List AV}{Z:Prop},r.length=3->r=au (cW X) m->Z->aa (aN z (i+1)) (ax (m+1) (m+1) (an (m+1) (λj=>bif e_ j m then au (cW X) j else s_ 3 (t_ (0+(j-m)*3) r)) (au (cW X))/\ax (m+1) (m+1) (ax n n (an n (au X) (au X)/\aH (i+1) (i+1) Z)))):=λhl C a=>
   cC _ _ hi (YG A ⟨IY hl C A,YG A (YG A ⟨bC _ _,Zf A a⟩)⟩)
  refine cC _ _ b (cC _ _ (by rw[v];rfl) (cC _ _ (aq O O) (Zg (λf=>?_) λf=>?_)))
  all_goals
   refine cC _ _ b (cC _ _ (by rw[w];rfl) (cC _ _ (aq O O) (cC _ _ b (cC _ _ (bW A) (cC _ _ (by rw[x];rfl) (cC _ _ (aq O O) (cC _ _ y (e A ?_ ?_))))))))
  ·show _=[g_ z (ma (X m 0)),_,_]
   have:ma (X m 0)=8:=by unfold ma;rw[bW f]
   rw[this];rfl
  grind
  ·show _=[g_ z (ma (X m 0)),_,_]
   have:ma (X m 0)=1+av (X m 0) 11:=by unfold ma;rw[nZ f]
   rw[this];rfl
  grind
def Mr(n)(X)(hx:∀j,j<n->WJ X j):af PP II 87 [Vl n X] (c_ 12) (.ret (.az (min n 6) 3 (au (cW X))) (c_ 12)):=by
 have a:=EQ n X hx
 generalize min n 6=N at*
 generalize (N:Int)=b at*
 refine bY (ks:=[]) (T:=[(3008,12,Vm n X (cW X) 0 0,WI n X (cW X) b N)]) (λσ=>⟨rfl,rfl,λi hi=>jq _ σ i⟩) ?_
 rw[Mp]
 exact⟨a,YG A ⟨bC _ _,cC _ _ zA A⟩⟩
def bG(f:Nat->List AV)(j k:Nat):Int:=bV (f j) k
def pC:∀(w)(cs),oG w cs=true->cs.length=w/\∀k,k<w->cs[k]? =v_ (.int z (bV cs k))/\aN z (bV cs k)=true
 |0,[],_=>Y
 |w+1,.int z i::cs,h=>by
  simp only[oG,bf]at h
  obtain⟨a,b⟩:=pC w cs h.2
  refine⟨by simp[a],λk c=>?_⟩
  cases k with
  |zero=>exact⟨rfl,h.1⟩
  |succ k=>exact b k O
 |0,_::_,h=>zE
def nP{cs}(h:oG 3 cs=true):cs=[.int z (bV cs 0),.int z (bV cs 1),.int z (bV cs 2)]/\aN z (bV cs 0)=true/\aN z (bV cs 1)=true/\aN z (bV cs 2)=true:=by
 obtain⟨c,b⟩:=pC 3 cs h
 obtain⟨a0,d⟩:=b 0 O
 obtain⟨a1,e⟩:=b 1 O
 obtain⟨a2,f⟩:=b 2 O
 refine⟨?_,d,e,f⟩
 match cs,c with
 |[x,y,a],_=>
  grind
def c7{w n:Nat}{f:Nat->List AV}(h:aI w n f=true){j:Nat}(a:j<n):oG w (f j)=true:=List.all_eq_true.1 h j (List.mem_range.2 a)
def AD:aC PP II:=aC.pure 87
 (λX args a=>match args with
  |[.az n 3 f]=>X.ak (aI 3 n f) (a (.az (min n 6) 3 (au (cW (bG f)))))
  |_=>X.fail)
 λX sem hX args a h=>by
  split at h
  ·rename_i n f
   obtain⟨b,c⟩:=hX.ak _ _ h
   refine⟨_,c,λ_=>rfl,λ_=>rfl,(Mr n (bG f) λj d=>?_).dq ⟨⟨rfl,rfl,λi hi=>?_⟩,trivial⟩⟩
   ·exact(nP (c7 b d)).2
   ·rw[(nP (c7 b hi)).1];exact jq (bG f) _ i
  ·exact zR
end
end Go.Sx
