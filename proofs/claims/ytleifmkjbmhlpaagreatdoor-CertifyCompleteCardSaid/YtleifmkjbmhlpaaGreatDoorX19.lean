/- The proof of a statement of the seat, part 19. -/
import Derived.Test.YtleifmkjbmhlpaaGreatDoorX18
import Derived.Shelf.GgSortFunc.Insertion
import Derived.Test.YtleifmkjbmhlpaaGreatDoorX15
set_option linter.all false
set_option linter.defProp false
set_option maxRecDepth 1000000
namespace Go.Sx
open Go
open Int renaming ofNat->M,toNat->d_
open Go.IntKind renaming i64->z
open Decidable renaming decide->a_
open List renaming range->b_,getElem?_append_left->h_,range_succ->k_,beq->q_,getElem?_append_right->r_,take->t_,drop->u_,getElem?_toArray->w_
open AH renaming blank->c_,aL->L_
open Nat renaming blt->e_,pos_of_ne_zero->f_,div_le_self->l_,mod_lt->m_,mul_comm->n_,zero_mul->o_,le_of_lt->p_,blt_eq->s_,mul_le_mul_left->y_,gcd->B_,div_add_mod->C_,mul_assoc->D_,add_comm->F_,ble->G_,zero_add->H_,add_mul->I_,mul_pos->J_,zero_le->K_
open AV renaming int->g_,str->E_,ae->M_
open Go.Value renaming int->i_
open Tr renaming ofList->j_
open Option renaming some->x_,none->A_
noncomputable section
def bO(a b c d:Nat):Int:=eT (a*d) (c*b)
def Rl(x y):eT y x= -eT x y:=by
 unfold eT;omega
def Rm(x y k):eT (x+k) (y+k)=eT x y:=by
 unfold eT;omega
def kT{x y}:eT x y=0↔x=y:=by
 unfold eT;omega
def BW(x y):eT x y=1∨eT x y=0∨eT x y= -1:=by
 unfold eT;omega
def Rn{a b c d}(e:0<b)(h:a/b<c/d):a*d<c*b:=by
 by_cases i:d=0
 grind
 ·have f:a<b*(a/b+1):=Nat.lt_mul_div_succ a e;have g:(c/d)*d<=c:=Nat.div_mul_le_self c d;have h3:a*d<b*(a/b+1)*d:=Nat.mul_lt_mul_of_pos_right f O;have h4:b*(a/b+1)*d<=b*(c/d)*d:=Nat.mul_le_mul_right d (y_ b h);have j:b*(c/d)*d<=b*c:=by rw[D_];exact y_ b g
  grind
def uA{a b c d}(e:0<b)(f:0<d)(h:a/b≠c/d):bO a b c d=eT (a/b) (c/d):=by
 unfold bO;rcases Nat.lt_or_gt_of_ne h with h1|h1
 ·have:=Rn (c:=c) (d:=d) e h1;unfold eT;omega
 ·have:=Rn (a:=c) (b:=d) (c:=a) (d:=b) f h1;unfold eT;omega
def FA{a b c d}(h:a/b=c/d):bO a b c d=eT (a%b*d) (c%d*b):=by
 unfold bO;have e:=C_ a b;have f:=C_ c d;have g:a*d=a%b*d+b*(a/b)*d:=by
  conv=>lhs;rw[<-e]
  rw[I_,F_]
 have i:c*b=c%d*b+b*(a/b)*d:=by
  conv=>lhs;rw[<-f]
  rw[I_,F_,h];congr 1;rw[n_ (d*(c/d)) b,n_ d,<-D_]
 rw[g,i,Rm]
def q7{a b c d}(g:0<b)(i:0<d)(h:a/b=c/d):
  (a%b=0->c%d=0->bO a b c d=0)/\(a%b=0->c%d≠0->bO a b c d= -1)/\(a%b≠0->c%d=0->bO a b c d=1)/\(bO b (a%b) d (c%d)= -bO a b c d):=by
 rw[FA h];refine⟨λe f=>?_,λe f=>?_,λe f=>?_,?_⟩
 ·rw[e,f,o_,o_];rfl
 ·rw[e,o_];have:0<c%d*b:=J_ O g;unfold eT;rw[if_pos this]
 ·rw[f,o_];have:0<a%b*d:=J_ O i;unfold eT;omega
 ·unfold bO;rw[<-Rl,n_ b,n_ d]
def FB(p:FP):FP:=⟨p.b,p.a%p.b,p.d,p.c%p.d,0-p.s⟩
def YC(p:FP):Prop:=iC p.a=true/\iC p.b=true/\iC p.c=true/\iC p.d=true/\0<p.b/\0<p.d/\(p.s=1∨p.s= -1)
def xA(v):q_ (ck v) [48]=Nat.beq v 0:=Dy mZ
def IM{p0}(G:YC p0):rX PP II false (IL II 109 0) (IK II 109) 27 (M8 p0) (M9 (p0.s*bO p0.a p0.b p0.c p0.d)):=
 rX.of (ι:=FP) fU [Vi,IH] (aX PP II []) 1000 27 0 (λp=>YC p/\p.s*bO p.a p.b p.c p.d=p0.s*bO p0.a p0.b p0.c p0.d) M8 (λ_=>M9 (p0.s*bO p0.a p0.b p0.c p0.d)) (λp=>p.b) FB p0 A U ⟨G,rfl⟩ λp H=>by
  obtain⟨a,b,c,d,s⟩:=p;obtain⟨⟨ha,m,t,n,f,i,u⟩,k⟩:=H;change iC a=true at ha;change iC b=true at m;change iC c=true at t;change iC d=true at n;change 0<b at f;change 0<d at i;change s=1∨s= -1 at u;change s*bO a b c d=_ at k;refine(Na a b c d s _ FB _ A A A).mpr ?_;have w:=eE (l_ a b) ha;have y:=eE (l_ c d) t;have C:=eE (p_ (m_ a f)) m;have D:=eE (p_ (m_ c i)) n;rw[cP,cP,cP,cP,cP,cP,dw ha,dw m,dw t,dw n,dw w,dw y,show e_ 0 b=true by simp_all,show e_ 0 d=true by simp_all];have l:aJ z (0-s)=true:=by rcases u with rfl|rfl<;>rfl
  have go:a/b=c/d->a%b≠0->c%d≠0->YC (FB ⟨a,b,c,d,s⟩)/\(FB ⟨a,b,c,d,s⟩).s*bO (FB ⟨a,b,c,d,s⟩).a (FB ⟨a,b,c,d,s⟩).b (FB ⟨a,b,c,d,s⟩).c (FB ⟨a,b,c,d,s⟩).d=p0.s*bO p0.a p0.b p0.c p0.d:=λo g j=>by
   refine⟨⟨m,C,n,D,f_ g,f_ j,?_⟩,?_⟩
   ·show 0-s=1∨0-s= -1;omega
   ·show(0-s)*bO b (a%b) d (c%d)=_;rw[(q7 f i o).2.2.2,<-k,Int.zero_sub,Int.neg_mul_neg]
  have both:∀{x:Bool},x=true->x=false->False:=zA;have E:b>a%b:=m_ a f
  with_reducible refine ZF A (ZF A (ZF A (aaz (λh=>?_) λh=>?_)))
  ·have F:a/b≠c/d:=λe=>by
    rw[kT.2 e]at h
    grind
   have e:=uA f i F;refine ZF ?_ (aag (by rw[<-e];exact k) trivial);rcases u with rfl|rfl<;>rcases BW (a/b) (c/d)with g|g|g<;>rw[g]<;>rfl
  ·have o:a/b=c/d:=by
    simp only[Bool.not_eq_false',bl]at h;exact kT.1 h
   obtain⟨k1,k2,I,_⟩:=q7 f i o;have q:∀{v:Nat},q_ (ck v) [48]=true->v=0:=λ{v} h=>dV ((xA v).symm.trans h)
   have r:∀{v:Nat},q_ (ck v) [48]=false->v≠0:=λ{v} h e=>by have:=(xA v).symm.trans h;simp_all
   with_reducible refine aaz (λg=>aaz (λj=>aag ?_ trivial) (λj=>aaz (λ_=>ZF l (aag ?_ trivial)) (λh3=>(both g h3).elim))) (λg=>aaz (λh3=>(both h3 g).elim) (λ_=>aaz (λj=>aag ?_ trivial) (λj=>ZF l (ZF ?_ (aaY ?_ (aaY ?_ (aaY ?_ (aaY ?_ (aag ?_ ?_)))))))))
   ·rw[<-k,k1 (q g) (q j),Int.mul_zero]
   ·rw[<-k,k2 (q g) (r j)];omega
   ·rw[<-k,I (r g) (q j)];omega
   ·simp
   ·rfl
   ·rfl
   ·rfl
   ·rfl
   ·rfl
   ·exact⟨go o (r g) (r j),E,rfl⟩
def Vk{a b c d}(f:bX (ck a) (ck b)=true)(g:bX (ck c) (ck d)=true)(ha:iC a=true)(n:iC b=true)(u:iC c=true)(o:iC d=true)(j:0<b)(k:0<d):
  af PP II 109 [.agg [.str (ck a),.str (ck b)],.agg [.str (ck c),.str (ck d)]] HP (.ret (.int z (bO a b c d)) HP):=by
 refine lP (T:=[(500000,27,M8 ⟨b,a%b,d,c%d,-1⟩,M9 (bO a b c d))]) ((Vj a b c d (bO a b c d) ⟨b,a%b,d,c%d,-1⟩ _ A A A).mpr ?_);have p:=eE (l_ a b) ha;have q:=eE (l_ c d) u;have r:=eE (p_ (m_ a j)) n;have s:=eE (p_ (m_ c k)) o;rw[cP,cP,cP,cP,cP,cP,dw ha,dw n,dw u,dw o,dw p,dw q,show e_ 0 b=true by simp_all,show e_ 0 d=true by simp_all,f,g,Int.one_mul];have both:∀{x:Bool},x=true->x=false->False:=zA;have i:∀{x:Int},x=bO a b c d->∀σ,AV.le σ (.int z x) (.int z (bO a b c d)):=λe _=>⟨rfl,e⟩
 with_reducible refine ZF A (ZF A (ZF A (ZF A (ZF A (aaz (λh=>?_) λh=>?_)))))
 ·have t:a/b≠c/d:=λe=>by
   rw[kT.2 e]at h
   grind
  refine ZF ?_ (i (uA j k t).symm);rcases BW (a/b) (c/d)with f|f|f<;>rw[f]<;>rfl
 ·have w:a/b=c/d:=by
   simp only[Bool.not_eq_false',bl]at h;exact kT.1 h
  obtain⟨k1,k2,y,C⟩:=q7 j k w;have l:∀{v:Nat},q_ (ck v) [48]=true->v=0:=λ{v} h=>dV ((xA v).symm.trans h)
  have m:∀{v:Nat},q_ (ck v) [48]=false->v≠0:=λ{v} h e=>by have:=(xA v).symm.trans h;simp_all
  with_reducible refine aaz (λf=>aaz (λg=>?_) (λg=>aaz (λ_=>ZF ?_ ?_) (λh3=>(both f h3).elim))) (λf=>aaz (by simp_all) (λ_=>aaz (λg=>?_) (λg=>ZF ?_ (ZF ?_ ⟨?_,aaY ?_ (aaY ?_ (aaY ?_ (aaY ?_ (aag ?_ ?_))))⟩))))
  ·exact i (k1 (l f) (l g)).symm
  ·rfl
  ·exact i (k2 (l f) (m g)).symm
  ·exact i (y (m f) (l g)).symm
  ·rfl
  ·simp
  ·have:=IM (p0:=⟨b,a%b,d,c%d,-1⟩) ⟨n,r,o,s,f_ (m f),f_ (m g),.inr A⟩
   grind
  all_goals grind
def FC{a b}(h:bX a b=true):a=ck (aw a)/\b=ck (aw b)/\iC (aw a)=true/\iC (aw b)=true/\0<aw b:=by
 have e:=h;unfold bX at h;simp only[ba]at h;obtain⟨⟨⟨c,d⟩,h3⟩,_⟩:=h;rw[s_]at h3;exact⟨(jv c).1,(jv d).1,(jv c).2,(jv d).2,h3⟩
def qp:ax PP II:=ax.oR 109
 (λX args f=>match args with
  |[.agg [.str a,.str b],.agg [.str c,.str d]]=>X.ag (bX a b&&bX c d) (f (.int z (bO (aw a) (aw b) (aw c) (aw d))))
  |_=>X.fail)
 λX sem hX args f h=>by
  split at h
  ·rename_i a b c d;obtain⟨e,g⟩:=hX.ag _ _ h;simp only[ba]at e;obtain⟨m,n,i,e4,j⟩:=FC e.1;obtain⟨f1,o,k,l,f5⟩:=FC e.2;refine⟨_,g,λ_=>rfl,λ_=>rfl,?_⟩;have:=Vk Y Y i e4 k l j f5
   grind
  ·exact zR
def Ro(n d)(Q):(kp [kOf] [] 322 [.int z n,.int z d] Q)=(B (a_ ((0:Int)<=n)&&a_ (n<(9223372036854775808:Int))&&a_ ((0:Int)<d)&&a_ (d<(9223372036854775808:Int))) (Q (AV.agg [E_ (ck (n.toNat/B_ n.toNat d.toNat)),E_ (ck (d.toNat/B_ n.toNat d.toNat))]))):=U
def Rp{n d:Nat}(c:n<9223372036854775808)(e:d<9223372036854775808)(f:0<d):af PP II 322 [.int z n,.int z d] HP (.ret (lQ n d) HP):=by
 refine lP (T:=[]) ((Ro n d _).mpr ?_);have a:d_ (n:Int)=n:=rfl;have b:d_ (d:Int)=d:=rfl;rw[a,b];refine ZF ?_ ?_
 grind
 ·exactλ_=>⟨rfl,rfl,trivial⟩
def Rq:ax PP II:=ax.oR 322
 (λX args a=>match args with
  |[.int z n,.int z d]=>X.ag (a_ (0<=n)&&aJ z n&&a_ (0<d)&&aJ z d) (a (lQ n.toNat d.toNat))
  |_=>X.fail)
 λX sem hX args a h=>by
  split at h
  ·rename_i n d;obtain⟨b,c⟩:=hX.ag _ _ h;simp only[ba,bl,pP]at b;refine⟨_,c,λ_=>rfl,λ_=>rfl,?_⟩;have:=Rp (n:=n.toNat) (d:=d.toNat) O O O
   grind
  ·exact zR
def Nb(k:Nat)(W C:Nat->Int)(i:Nat):St:={t:=j_ [(3,.int z (C i)),(6,.ae k 1 (ah W)),(7,.int z (M k)),(8,.int z (M i))],nt:=17,H:=c_ 12,df:=[]}
def Nc(v:Int):GE:=.one (.x 0 {t:=j_ [(3,.int z v)],nt:=17,H:=c_ 12,df:=[]})
def Nd(k)(W C)(i)(Q):(kr [] [] 320 3001 12 (Nb k W C) (λ_=>Nc (C k)) (λi=>i+1) Q i)=(ak (a_ (M i<M k)) (B (a_ (0<=M i)&&a_ (M i<M k)) (B (aJ z (C i+W (d_ (M i)))) (B (aJ z (M i+1)) (zyI (M k) (aS (C i+W (d_ (M i))) (C (i+1)) (aS (M i+1) (M (i+1)) (zyN k (zyR k (ah W) Q)))))))) (aS (C i) (C k) True)):=U
def Vl(k)(W C)(Q):(kb [] [(3001,12,Nb k W C 0,Nc (C k))] 320 [.ae k 1 (ah W)] Q)=(ay PP II false (az II (320:Nat) (3001:Nat)) (12:Nat) (Nb k W C (0:Nat)) (Nc (C k))/\zyI (M k) (aS (0:Int) (C (0:Nat)) (zyN k (zyR k (ah W) (Q (g_ z (C k))))))):=U
def Rs(n)(Q):(kp [Rq] [] 318 [.int z n] Q)=(B (a_ ((0:Int)<=n)&&aJ z n&&true&&aJ z (1:Int)) (Q (AV.agg [E_ (ck (n.toNat/B_ n.toNat (1:Nat))),E_ (ck ((1:Nat)/B_ n.toNat (1:Nat)))]))):=U
def eQ(W:Nat->Int):Nat->Int
 |0=>0
 |i+1=>eQ W i+W i
def jk(k:Nat)(f:Nat->List AV):Bool:=bN k f&&G_ k 1000000000000&&(b_ (k+1)).all λi=>aJ z (eQ (a8 f) i)
def Nf{k W}(d:k<=1000000000000)(b:∀i,i<=k->aJ z (eQ W i)=true):ay PP II false (az II 320 3001) 12 (Nb k W (eQ W) 0) (Nc (eQ W k)):=
 ay.of (ι:=Nat) fU [] (aX PP II []) 1000 12 (λi=>i<=k) (Nb k W (eQ W)) (λ_=>Nc (eQ W k)) (λi=>k-i) (λi=>i+1) 0 A (K_ _) λi hi=>by
  have c:an k (ah W) (ah W):=aaX λ_ _=>gw _ _ _
  refine(Nd k W _ i _).mpr (aaz (λh=>?_) λh=>?_)
  ·have a:i<k:=by simp only[bl]at h;exact Int.ofNat_lt.1 h
   refine ZF zI (ZF (b (i+1) a) (ZF (ai Y Y) ?_));exact aag A (aag A (aag A (aan A Y)))
  ·have a:i=k:=by
    simp only[je]at h;have :¬ i<k:=by simp_all
    omega
   subst a;exact aag A trivial
def Vm{k W}(a:k<=1000000000000)(b:∀i,i<=k->aJ z (eQ W i)=true):af PP II 320 [.ae k 1 (ah W)] (c_ 12) (.ret (.int z (eQ W k)) (c_ 12)):=
 bQ (T:=[(3001,12,Nb k W (eQ W) 0,Nc (eQ W k))]) (λ_=>⟨rfl,rfl⟩) ((Vl k W _ _).mpr ⟨Nf a b,aag A (aag A (aan A ⟨aaX λ_ _=>gw _ _ _,rfl⟩))⟩)
def oS{k f}(h:jk k f=true):bN k f=true/\k<=1000000000000/\∀i,i<=k->aJ z (eQ (a8 f) i)=true:=by
 unfold jk at h;simp only[ba]at h;exact⟨h.1.1,by simp_all,λi hi=>Y⟩
def WW:ax PP II:=ax.pure 320
 (λX args a=>match args with
  |[.ae k 1 f]=>X.ag (jk k f) (a (.int z (eQ (a8 f) k)))
  |_=>X.fail)
 λX sem hX args a h=>by
  split at h
  ·obtain⟨b,c⟩:=hX.ag _ _ h;obtain⟨h3,h4,d⟩:=oS b;exact⟨_,c,λ_=>rfl,λ_=>rfl,(Vm h4 d).cS ⟨gJ h3,trivial⟩⟩
  ·exact zR
def Rt{n:Nat}(b:n<9223372036854775808):af PP II 318 [.int z n] HP (.ret (lQ n 1) HP):=by
 refine lP (T:=[]) ((Rs n _).mpr ?_);have a:d_ (n:Int)=n:=rfl;rw[a];refine ZF ?_ ?_
 ·rw[bK (Int.natCast_nonneg n),ai (n:=(n:Int)) O O];rfl
 ·exactλ_=>⟨rfl,rfl,trivial⟩
def DA:ax PP II:=ax.oR 318
 (λX args a=>match args with
  |[.int z n]=>X.ag (a_ (0<=n)&&aJ z n) (a (lQ n.toNat 1))
  |_=>X.fail)
 λX sem hX args a h=>by
  split at h
  ·rename_i n;obtain⟨b,c⟩:=hX.ag _ _ h;simp only[ba,bl,pP]at b;refine⟨_,c,λ_=>rfl,λ_=>rfl,?_⟩;have:=Rt (n:=n.toNat) O
   grind
  ·exact zR
def OW(k:Nat)(W C:Nat->Int)(i:Nat):St:={t:=j_ [(0,.ae k 1 (ah W)),(3,.int z (C i)),(4,.int z (M i))],nt:=25,H:=c_ 12,df:=[]}
def OX(v:Int):GE:=.one (.x 0 {t:=j_ [(3,.int z v)],nt:=25,H:=c_ 12,df:=[]})
def Ng(k)(W C)(i)(Q):(kr [] [] 143 5004 12 (OW k W C) (λ_=>OX (C k)) (λi=>i+1) Q i)=(ak (a_ (M i<M k)) (B (a_ (0<=M i)&&a_ (M i<M k)) (B (aJ z (M i+1)) (aS (if W (d_ (M i))>C i then W (d_ (M i))else C i) (C (i+1)) (zyN k (zyR k (ah W) (aS (M i+1) (M (i+1)) Q)))))) (aS (C i) (C k) True)):=U
def Vn(k)(W C)(Q):(kb [] [(5004,12,OW k W C 1,OX (C k))] 143 [.ae k 1 (ah W)] Q)=(ak (a_ (M k<1)) False (B (a_ (0<M k)) (ay PP II false (az II 143 5004) 12 (OW k W C 1) (OX (C k))/\aS (W 0) (C 1) (zyN k (zyR k (ah W) (Q (g_ z (C k)))))))):=U
def Nh(k)(W C)(i)(Q):(kr [] [] 142 5004 12 (OW k W C) (λ_=>OX (C k)) (λi=>i+1) Q i)=(ak (a_ (M i<M k)) (B (a_ (0<=M i)&&a_ (M i<M k)) (B (aJ z (M i+1)) (aS (if W (d_ (M i))<C i then W (d_ (M i))else C i) (C (i+1)) (zyN k (zyR k (ah W) (aS (M i+1) (M (i+1)) Q)))))) (aS (C i) (C k) True)):=U
def Vo(k)(W C)(Q):(kb [] [(5004,12,OW k W C 1,OX (C k))] 142 [.ae k 1 (ah W)] Q)=(ak (a_ (M k<1)) False (B (a_ (0<M k)) (ay PP II false (az II 142 5004) 12 (OW k W C 1) (OX (C k))/\aS (W 0) (C 1) (zyN k (zyR k (ah W) (Q (g_ z (C k)))))))):=U
def dH(W:Nat->Int):Nat->Int
 |0=>W 0
 |i+1=>if W i>dH W i then W i else dH W i
def Ni{k W}(d:k<=1000000000000)(c:0<k):ay PP II false (az II 143 5004) 12 (OW k W (dH W) 1) (OX (dH W k)):=
 ay.of (ι:=Nat) fU [] (aX PP II []) 1000 12 (λi=>i<=k) (OW k W (dH W)) (λ_=>OX (dH W k)) (λi=>k-i) (λi=>i+1) 1 A c λi hi=>by
  have a:an k (ah W) (ah W):=aaX λ_ _=>gw _ _ _
  refine(Ng k W _ i _).mpr (aaz (λh=>?_) λh=>?_)
  ·have b:i<k:=by simp only[bl]at h;exact Int.ofNat_lt.1 h
   refine ZF zI (ZF (ai Y Y) ?_);exact aag A (aan A ⟨a,aag A Y⟩)
  ·have b:i=k:=by
    simp only[je]at h;have :¬ i<k:=by simp_all
    omega
   subst b;exact aag A trivial
def Vp{k W}(a:k<=1000000000000)(b:0<k):af PP II 143 [.ae k 1 (ah W)] (c_ 12) (.ret (.int z (dH W k)) (c_ 12)):=
 bQ (T:=[(5004,12,OW k W (dH W) 1,OX (dH W k))]) (λ_=>⟨rfl,rfl⟩) ((Vn k W _ _).mpr (aaz (λh=>by
  grind) λ_=>ZF Y ⟨Ni a b,aag (by
   show W 0=if W 0>W 0 then W 0 else W 0
   split<;>rfl) (aan A ⟨aaX λ_ _=>gw _ _ _,rfl⟩)⟩))
def Ru:ax PP II:=ax.pure 143
 (λX args b=>match args with
  |[.ae k 1 f]=>X.ag (bN k f&&G_ k 1000000000000&&e_ 0 k) (b (.int z (dH (a8 f) k)))
  |_=>X.fail)
 λX sem hX args b h=>by
  split at h
  ·obtain⟨a,c⟩:=hX.ag _ _ h;simp only[ba,s_]at a;exact⟨_,c,λ_=>rfl,λ_=>rfl,(Vp (by simp_all) a.2).cS ⟨gJ a.1.1,trivial⟩⟩
  ·exact zR
def k9(W:Nat->Int):Nat->Int
 |0=>W 0
 |i+1=>if W i<k9 W i then W i else k9 W i
def Nj{k W}(d:k<=1000000000000)(c:0<k):ay PP II false (az II 142 5004) 12 (OW k W (k9 W) 1) (OX (k9 W k)):=
 ay.of (ι:=Nat) fU [] (aX PP II []) 1000 12 (λi=>i<=k) (OW k W (k9 W)) (λ_=>OX (k9 W k)) (λi=>k-i) (λi=>i+1) 1 A c λi hi=>by
  have a:an k (ah W) (ah W):=aaX λ_ _=>gw _ _ _
  refine(Nh k W _ i _).mpr (aaz (λh=>?_) λh=>?_)
  ·have b:i<k:=by simp only[bl]at h;exact Int.ofNat_lt.1 h
   refine ZF zI (ZF (ai Y Y) ?_);exact aag A (aan A ⟨a,aag A Y⟩)
  ·have b:i=k:=by
    simp only[je]at h;have :¬ i<k:=by simp_all
    omega
   subst b;exact aag A trivial
def Vq{k W}(a:k<=1000000000000)(b:0<k):af PP II 142 [.ae k 1 (ah W)] (c_ 12) (.ret (.int z (k9 W k)) (c_ 12)):=
 bQ (T:=[(5004,12,OW k W (k9 W) 1,OX (k9 W k))]) (λ_=>⟨rfl,rfl⟩) ((Vo k W _ _).mpr (aaz (λh=>by
  grind) λ_=>ZF Y ⟨Nj a b,aag (by
   show W 0=if W 0<W 0 then W 0 else W 0
   split<;>rfl) (aan A ⟨aaX λ_ _=>gw _ _ _,rfl⟩)⟩))
def WX:ax PP II:=ax.pure 142
 (λX args b=>match args with
  |[.ae k 1 f]=>X.ag (bN k f&&G_ k 1000000000000&&e_ 0 k) (b (.int z (k9 (a8 f) k)))
  |_=>X.fail)
 λX sem hX args b h=>by
  split at h
  ·obtain⟨a,c⟩:=hX.ag _ _ h;simp only[ba,s_]at a;exact⟨_,c,λ_=>rfl,λ_=>rfl,(Vq (by simp_all) a.2).cS ⟨gJ a.1.1,trivial⟩⟩
  ·exact zR
section
open Go.Proofs Go.Sort
def nf(n:Nat)(W:Nat->Int):AH:={n:=13,t:=j_ [(12,.rows n 1 (ah W) (.ty 3))]}
def jT(n:Nat)(W:Nat->Int):List Value:=(b_ n).map λi=> .int z (W i)
def q8{ρ}:∀{a b vs},aV ρ (a++b) vs->∃us c,vs=us++c/\aV ρ a us/\aV ρ b c
 |[],_,vs,h=>⟨[],vs,rfl,rfl,h⟩
 |_::_,_,_,⟨u,us,e,h1,d⟩=>by obtain⟨x,y,rfl,h3,h4⟩:=q8 d;exact⟨u::x,y,e,⟨u,x,rfl,h1,h3⟩,h4⟩
def FD{ρ W}:∀{n vs},aV ρ (rowsOf n (ah W)) vs->vs=jT n W
 |0,vs,h=>h
 |n+1,vs,h=>by rw[show rowsOf (n+1) (ah W)=rowsOf n (ah W)++[.int z (W n)] by simp[rowsOf,ah,k_]]at h;obtain⟨us,d,rfl,b,u,c,rfl,a,rfl⟩:=q8 h;rw[FD b];have a:u= .int z (W n):=a;rw[a];simp[jT,k_]
def FE{ρ W}:∀(n),aV ρ (rowsOf n (ah W)) (jT n W)
 |0=>rfl
 |n+1=>by rw[show rowsOf (n+1) (ah W)=rowsOf n (ah W)++[.int z (W n)] by simp[rowsOf,ah,k_],show jT (n+1) W=jT n W++[.int z (W n)] by simp[jT,k_]];exact(FE n).append ⟨_,[],rfl,rfl,rfl⟩
def A5{n W a}(rest):putCells (i_ z) 0 ((b_ n).map a).toArray (jT n W++rest).toArray=(jT n a++rest).toArray:=by
 have hl:(jT n W).length=n:=by simp[jT]
 have b:(jT n a).length=n:=by simp[jT]
 apply Array.ext_getElem?;intro k;simp only[putCells,Array.getElem?_mapIdx,w_];by_cases hk:k<n
 ·rw[h_ O,h_ O];simp[jT,hk]
 ·rw[r_ O,r_ O,hl,b];cases rest[k-n]? with
  |none=>rfl
  |some x=>simp[hk]
def af.Vr{P I f g n W a}(S:0<n)(G:∀(vs)(w),(callFunc f vs).run P w= .ok (.enter f vs) w)
  (h:∀(r cap)(w),Holds (i_ z) w r 0 ((b_ n).map W).toArray->r<w.heap.size->Calls P f #[.slice (x_ ⟨r,0,A_⟩) n cap,.func (.func g) #[] #[]] w λe w'=>e= .returned (.tuple #[])/\∃m os,w'=sortWorld (i_ z) w r 0 m ((b_ n).map a).toArray os):
  af P I f [.own 12 n 1,.fn g [] []] (nf n W) (.ret (.bM []) (nf n a)):=by
 intro c ρ w vs hG l C;obtain⟨u,us,rfl,H,T,J,rfl,K,rfl⟩:=l;obtain⟨a1,a2,rfl,s,e4⟩:=K;have s:a1=[]:=s;have e4:a2=[]:=e4;subst s e4;rcases H with⟨e,_⟩|⟨b,N,cap,D,rfl,L,O⟩
 ·omega
 have d:bn ρ w (ρ 12) (.rows n 1 (ah W) (.ty 3)):=C.eB 12;have t:((nf n W).get 12).rw=true:=rfl;rw[D]at d;rcases d.2 with⟨_,e⟩|⟨U,V,vs,rest,el,E,h1,o,h3,h4,F,X,Y⟩
 ·cases e
 cases h1;cases FD h4;have y:b<w.heap.size:=(Array.getElem?_eq_some_iff.1 o).1;have hl:(jT n W).length=n:=by simp[jT]
 have Q:Holds (i_ z) w b 0 ((b_ n).map W).toArray:=by
  intro j q;have q:j<n:=by simpa using q
  refine⟨?_,?_⟩
  ·show(match w.heap[b]? with|some (.cells c _ _)=>_|_=>_)=_;rw[o];show(jT n W++rest).toArray[0+j]? =x_ (i_ z (((b_ n).map W).toArray)[j]!);rw[H_,w_,h_ (by rw[hl];exact q)];simp[jT,q]
  ·show(match w.heap[b]? with|some (.cells _ _ (lo,hi))=>_|_=>_)=_;rw[o];obtain⟨lo,hi⟩:=E;have R:=F.w A j (by rw[<-h3,List.length_append,hl];omega);show(a_ (lo<=0+j)&&a_ (0+j<hi))=false;rw[H_];exact Bool.eq_false_iff.2 λe=>R (by simpa using e)
 refine .inl ⟨G _ _,(h b cap w Q y).mono ?_⟩
 rintro e w' ⟨rfl,m,os,rfl⟩
 have ht:Rel c ρ ((nf n W).set 12 (.rows n 1 (ah a) (.ty 3))) (putRow (i_ z) (Sort.ahead w m) b 0 ((b_ n).map a).toArray):=by
  refine C.gX _ t D (λk d=>?_) ?_ A A A ?_
  ·show(w.heap.modify b _)[k]? =_;rw[Array.getElem?_modify,if_neg (λe=>d e.symm)]
  ·show(w.heap.modify b _).size=_;simp
  ·refine⟨λ_ _=>rfl,.inr ⟨b,N,jT n a,rest,el,E,rfl,?_,?_,FE n,F,?_,λe=>zG⟩⟩
   ·show(w.heap.modify b _)[b]? =_;rw[Array.getElem?_modify,if_pos A,o];show x_ (Obj.cells _ _ _)=_;rw[A5]
   ·rw[<-h3];simp[jT]
   ·intro v l;simp only[jT,List.mem_map]at l;obtain⟨i,_,rfl⟩:=l;rfl
 refine⟨ρ,Ext.refl ρ,(ht.under (w':=sortWorld (i_ z) w b 0 m ((b_ n).map a).toArray os) ⟨rfl,rfl,rfl,?_,λk d=>?_⟩).congr A (λi=>?_),⟨[],rfl,rfl⟩⟩
 ·show _<=(_++os).size;simp
 ·show(_++os)[k]? =_;rw[Array.getElem?_append_left d]
 ·by_cases hi:i=12
  ·subst hi;rw[AH.get_set_same];rfl
  ·rw[L_ _ _ (λe=>hi e.symm)];have e:∀W,nf n W=(c_ 13).set 12 (.rows n 1 (ah W) (.ty 3)):=λ_=>rfl
   rw[e,e,L_ _ _ (λe=>hi e.symm),L_ _ _ (λe=>hi e.symm)]
end
def q9:Nat->List AV->Bool
 |0,[]=>true
 |w+1,.int z i::cs=>aJ z i&&q9 w cs
 |_,_=>false
def ar(w n:Nat)(f:Nat->List AV):Bool:=(b_ n).all λi=>q9 w (f i)
def cT(cs:List AV)(k:Nat):Int:=match cs.getD k .any with| .int z i=>i|_=>0
abbrev jC:ax PP II:=WU 67 (.inr A)
def oj(a:Int):Int:=match a_ (1+aj a 11>8)with|true=>8|false=>1+aj a 11
def av(X:Nat->Nat->Int)(j:Nat):List AV:=[.int z (X j 0),.int z (X j 1),.int z (X j 2)]
def Zz(n:Nat)(X:Nat->Nat->Int):AV:=.ae n 3 (av X)
def cN(X:Nat->Nat->Int)(j:Nat)(k:Nat):Int:=match k with|0=>oj (X j 0)|1=>1+aj (X j 1) 4|_=>aj (X j 2) 40-1
def ZD(n:Nat)(X:Nat->Nat->Int)(C:Nat->Nat->Int)(i:Int)(m:Nat):St:={t:=j_ [(0,Zz n X),(3,.own 12 m 3),(4,.int z i)],nt:=45,H:={n:=13,t:=j_ [(12,.rows m 3 (av C) (.ty 76))]},df:=[]}
def e66(n:Nat)(X:Nat->Nat->Int)(C:Nat->Nat->Int)(i:Int)(m:Nat):GE:=.one (.x 0 (ZD n X C i m))
def IN(n)(X C)(i l o)(m e k)(Q):(kr (ι:=Int×Nat) [jC] [] 66 3008 12 (λp=>ZD n X C p.1 p.2) (λ_=>e66 n X C o k) (λ_=>(l,e)) Q (i,m))=(let b:=(a_ (0<=i)&&a_ (i<M n));let f:=(bh m k (zyR m (av C) (bh m k (zyN n (zyR n (av X) (aS i o True))))));let c:=(aj (X i.toNat 2) 40-1);let d:=(1+aj (X i.toNat 1) 4);let g:=(a_ (m<=m)&&true&&true&&a_ ((m+1)*24<=140737488355328)&&true);let h:=(zyN n (zyR n (av X) (aS (i+1) l Q)));let j:=(a_ (X i.toNat 2=X i.toNat 2));(ak (a_ (i<M n)) (ak (a_ (i<6)) (B b (B (aJ z (X i.toNat 0)&&true) (B (aJ z (1+aj (X i.toNat 0) 11)) (ak (a_ (1+aj (X i.toNat 0) 11>8)) (B b (B (aJ z (X i.toNat 1)&&true) (B (aJ z d) (B b (B j (B (aJ z (X i.toNat 2)&&true) (B (aJ z c) (B g (B (aJ z (i+1)) (bh (m+1) e (an (m+1) (λa=>bif e_ a m then av C a else t_ 3 (u_ (0+(a-m)*3) [g_ z 8,g_ z d,g_ z c])) (av C)/\bh (m+1) e h))))))))))) (B b (B (aJ z (X i.toNat 1)&&true) (B (aJ z d) (B b (B j (B (aJ z (X i.toNat 2)&&true) (B (aJ z c) (B g (B (aJ z (i+1)) (bh (m+1) e (an (m+1) (λa=>bif e_ a m then av C a else t_ 3 (u_ (0+(a-m)*3) [g_ z (1+aj (X i.toNat 0) 11),g_ z d,g_ z c])) (av C)/\bh (m+1) e h))))))))))))))) f) f)):=U
def Rv(n)(X C)(b)(a)(Q):(kb [] [(3008,12,ZD n X C 0 0,e66 n X C b a)] 66 [Zz n X] Q)=(ay PP II false (az II 66 3008) 12 {t:=.n (.n (.n .e (x_ (AV.own 12 0 3)) .e) A_ .e) (x_ (M_ n 3 (av X))) (.n (.n .e (x_ (g_ z 0)) .e) A_ .e),nt:=45,H:={n:=13,t:=.n .e A_ (.n (.n .e A_ (.n .e (x_ (aae.rows 0 3 (av C) (Access.ty 76))) .e)) A_ .e)},df:=[]} (GE.one (aK.x 0 {t:=.n (.n (.n .e (x_ (AV.own 12 a 3)) .e) A_ .e) (x_ (M_ n 3 (av X))) (.n (.n .e (x_ (g_ z b)) .e) A_ .e),nt:=45,H:={n:=13,t:=.n .e A_ (.n (.n .e A_ (.n .e (x_ (aae.rows a 3 (av C) (Access.ty 76))) .e)) A_ .e)},df:=[]}))/\zyN n (zyR n (av X) (B ((List.all (List.range.loop a []) λi=>true)&&a_ (a<=a)) (Q (M_ a 3 (av C)))))):=U
def ku(X)(σ)(j):bj.le σ (av X j) (av X j):=⟨⟨rfl,rfl⟩,⟨rfl,rfl⟩,⟨rfl,rfl⟩,trivial⟩
def cM(n)(X):an n (av X) (av X):=aaX λσ j=>ku X σ j
def Rw{m g C}(h:∀j,j<m->g j=av C j):an m g (av C):=λj a σ=>by rw[h j a];exact ku C σ j
def aao(X:Nat->Nat->Int)(j:Nat):Prop:=aJ z (X j 0)=true/\aJ z (X j 1)=true/\aJ z (X j 2)=true
def Nk{m k C r}(d:r.length=3)(c:r=av C m)(e:k=m+1):
  an k (λj=>bif e_ j m then av C j else t_ 3 (u_ (0+(j-m)*3) r)) (av C):=by
 refine Rw λj a=>?_
 by_cases h:j<m
 ·simp only[(s_ ..).mpr h,cond_true]
 ·have a:j=m:=by omega
  have b:e_ j m=false:=by
   cases b:e_ j m with
   |false=>rfl
   |true=>simp_all
  simp only[b,cond_false];rw[a,Nat.sub_self,<-c]
  grind
def IP(n)(X)(hx:∀j,j<n->aao X j):ay PP II false (az II 66 3008) 12 (ZD n X (cN X) 0 0) (e66 n X (cN X) (min n 6:Nat) (min n 6)):=
 ay.of (ι:=Int×Nat) fU [jC] (aX PP II []) 1000 12 (λp=>p.1=(p.2:Int)/\p.2<=min n 6) (λp=>ZD n X (cN X) p.1 p.2) (λ_=>e66 n X (cN X) (min n 6:Nat) (min n 6)) (λp=>min n 6-p.2) (λp=>(p.1+1,p.2+1)) (0,0) A ⟨rfl,K_ _⟩ λp g=>by
  obtain⟨i,m⟩:=p;obtain⟨k,l⟩:=g;simp only at k l;have o:((min n 6:Nat):Int)=((min n 6:Nat):Int):=rfl;have q:min n 6<=n/\min n 6<=6:=O;have s:min n 6=n∨min n 6=6:=O;generalize min n 6=N at*;generalize D:(N:Int)=d at*;refine(IN n X (cN X) i (i+1) d m (m+1) N _).mpr ?_;have E:M n=(n:Int):=rfl;have t:d_ i=m:=O;rw[t];have done:i=d->bh m N (an m (av (cN X)) (av (cN X))/\bh m N (bh n n (an n (av X) (av X)/\aS i d True))):=λh=>aan O ⟨cM _ _,aan O (aan A ⟨cM _ _,aag h trivial⟩)⟩
  refine aaA (λha=>aaA (λu=>?_) λu=>done O) λha=>done O
  obtain⟨v,w,x⟩:=hx m O;have p0:=bF (c:=X m 0) (n:=11) O;have F:=bF (c:=X m 1) (n:=4) O;have G:=bF (c:=X m 2) (n:=40) O;have b:(a_ (0<=i)&&a_ (i<M n))=true:=by simp only[ba,bl];omega
  have hi:aJ z (i+1)=true:=ai O O;have y:(a_ (m<=m)&&true&&true&&a_ ((m+1)*24<=140737488355328)&&true)=true:=by simp only[ba,Bool.and_true,bl];omega
  have e:∀{r:List AV}{Z:Prop},r.length=3->r=av (cN X) m->Z->B (aJ z (i+1)) (bh (m+1) (m+1) (an (m+1) (λj=>bif e_ j m then av (cN X) j else t_ 3 (u_ (0+(j-m)*3) r)) (av (cN X))/\bh (m+1) (m+1) (bh n n (an n (av X) (av X)/\aS (i+1) (i+1) Z)))):=λhl C a=>
   ZE _ _ hi (aan A ⟨Nk hl C A,aan A (aan A ⟨cM _ _,aag A a⟩)⟩)
  refine ZE _ _ b (ZE _ _ (by rw[v];rfl) (ZE _ _ (ai O O) (aaA (λf=>?_) λf=>?_)))
  all_goals
   refine ZE _ _ b (ZE _ _ (by rw[w];rfl) (ZE _ _ (ai O O) (ZE _ _ b (ZE _ _ (bK A) (ZE _ _ (by rw[x];rfl) (ZE _ _ (ai O O) (ZE _ _ y (e A ?_ ?_))))))))
  ·show _=[g_ z (oj (X m 0)),_,_];have:oj (X m 0)=8:=by unfold oj;rw[bK f]
   rw[this];rfl
  grind
  ·show _=[g_ z (oj (X m 0)),_,_];have:oj (X m 0)=1+aj (X m 0) 11:=by unfold oj;rw[nJ f]
   rw[this];rfl
  grind
def Rx(n)(X)(hx:∀j,j<n->aao X j):af PP II 66 [Zz n X] (c_ 12) (.ret (.ae (min n 6) 3 (av (cN X))) (c_ 12)):=by
 have a:=IP n X hx;generalize min n 6=N at*;generalize (N:Int)=b at*;refine bQ (ks:=[]) (T:=[(3008,12,ZD n X (cN X) 0 0,e66 n X (cN X) b N)]) (λσ=>⟨rfl,rfl,λi hi=>ku _ σ i⟩) ?_;rw[Rv];exact⟨a,aan A ⟨cM _ _,ZE _ _ zA A⟩⟩
def aF(f:Nat->List AV)(j k:Nat):Int:=cT (f j) k
def se:∀(w)(cs),q9 w cs=true->cs.length=w/\∀k,k<w->cs[k]? =x_ (.int z (cT cs k))/\aJ z (cT cs k)=true
 |0,[],_=>Y
 |w+1,.int z i::cs,h=>by
  simp only[q9,ba]at h;obtain⟨a,b⟩:=se w cs h.2;refine⟨by simp[a],λk c=>?_⟩;cases k with
  |zero=>exact⟨rfl,h.1⟩
  |succ k=>exact b k O
 |0,_::_,h=>zE
def pY{cs}(h:q9 3 cs=true):cs=[.int z (cT cs 0),.int z (cT cs 1),.int z (cT cs 2)]/\aJ z (cT cs 0)=true/\aJ z (cT cs 1)=true/\aJ z (cT cs 2)=true:=by
 obtain⟨c,b⟩:=se 3 cs h;obtain⟨a0,d⟩:=b 0 O;obtain⟨a1,e⟩:=b 1 O;obtain⟨a2,f⟩:=b 2 O;refine⟨?_,d,e,f⟩
 match cs,c with
 |[x,y,a],_=>
  grind
def KQ{cs}(h:q9 4 cs=true):cs=[.int z (cT cs 0),.int z (cT cs 1),.int z (cT cs 2),.int z (cT cs 3)]/\aJ z (cT cs 0)=true/\aJ z (cT cs 1)=true/\aJ z (cT cs 2)=true/\aJ z (cT cs 3)=true:=by
 obtain⟨c,b⟩:=se 4 cs h;obtain⟨a0,d⟩:=b 0 O;obtain⟨a1,e⟩:=b 1 O;obtain⟨a2,f⟩:=b 2 O;obtain⟨i,g⟩:=b 3 O;refine⟨?_,d,e,f,g⟩
 match cs,c with
 |[x,y,a,u],_=>
  grind
def dQ{w n f}(h:ar w n f=true){j}(a:j<n):q9 w (f j)=true:=List.all_eq_true.1 h j (List.mem_range.2 a)
def DB:ax PP II:=ax.pure 66
 (λX args a=>match args with
  |[.ae n 3 f]=>X.ag (ar 3 n f) (a (.ae (min n 6) 3 (av (cN (aF f)))))
  |_=>X.fail)
 λX sem hX args a h=>by
  split at h
  ·rename_i n f;obtain⟨b,c⟩:=hX.ag _ _ h;refine⟨_,c,λ_=>rfl,λ_=>rfl,(Rx n (aF f) λj d=>?_).cS ⟨⟨rfl,rfl,λi hi=>?_⟩,trivial⟩⟩
   ·exact(pY (dQ b d)).2
   ·rw[(pY (dQ b hi)).1];exact ku (aF f) _ i
  ·exact zR
def KR:ax PP II:=ax.pure 10
 (λX args a=>match args with
  |[.ae n 4 f]=>X.ag (ar 4 n f) (a (cZ (fp (aF f) (min n 40)).length (bm (fp (aF f) (min n 40)))))
  |_=>X.fail)
 λX sem hX args a h=>by
  split at h
  ·rename_i n f;obtain⟨b,c⟩:=hX.ag _ _ h;refine⟨_,c,λ_=>rfl,λ_=>rfl,(MS n (aF f) λj d=>?_).cS ⟨⟨rfl,rfl,λi hi=>?_⟩,trivial⟩⟩
   ·exact(KQ (dQ b d)).2
   ·rw[(KQ (dQ b hi)).1];exact KA (aF f) _ i
  ·exact zR
end
end Go.Sx
