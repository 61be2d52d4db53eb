/- Lemmas, part 9. -/
import Derived.Test.YtoijalagmmgkbaaGreatDoorX06
import Derived.Test.YtoijalagmmgkbaaGreatDoorX08
import Derived.Laws.Externs
set_option linter.all false
set_option linter.defProp false
set_option maxRecDepth 1000000
namespace Go.Sx
open Go
open Int renaming ofNat->M,tdiv->j_,toNat->k_,tmod->n_,natCast_nonneg->w_,toNat_natCast->C_,natCast_pow->F_,mul_assoc->I_,ne_of_gt->K_,pow_succ->L_,zero_mul->M_,mul_comm->N_,emod_def->O_,add_mul->R_
open Decidable renaming decide->z
open Go.IntKind renaming i64->a_
open AH renaming blank->b_
open AV renaming int->c_,bool->i_,ab->s_,le->S_
open List renaming take->d_,drop->e_,all->m_,range->u_,getElem?_eq_none->z_
open Nat renaming blt->f_,mod_eq_of_lt->g_,pow_succ->l_,div_div_eq_div_mul->o_,ble->p_,mul_comm->q_,beq->r_,zero_le->t_,lt_of_le_of_lt->v_,add_mul_mod_self_left->x_,lt_or_ge->y_,div_lt_iff_lt_mul->A_,mul_le_mul_left->B_,div_eq_of_lt->D_,add_assoc->H_,mul_assoc->J_,mod_one->P_,mod_mul->Q_,mod_lt->U_
open Tr renaming ofList->h_
noncomputable section
noncomputable abbrev PP:Program:=Go.Proofs.Tryz.prog
noncomputable def II:ba:=Go.Proofs.Tryz.Lo.VE false
theorem Hs:II.Ok PP:=Go.Proofs.Tryz.Lp.ok false
noncomputable abbrev kb(ks:List (aC PP II))(T:lI)(f:FuncId)(args:List AV)(Q:AV->Prop):Prop :=
 jE ks (mG PP II T) 1000 f args (b_ 12) (fk 12 Q) (λ_ _=>False)
noncomputable abbrev kr{ι:Type}(ks:List (aC PP II))(T:lI)(f key n0:Nat)(S:ι->St)(E:ι->GE)(a:ι->ι)(Q:Prop)(i:ι):Prop :=
 uA ks (mG PP II T) 1000 false (.code (aD II f key)) (S i) (tP n0 S E a Q i)
theorem eu.CS(ks:Nat->List (aC PP II))(T:Nat->lI){f key n0:Nat}{S:Int->St}{g:GE}{n:Nat}(c:p_ II.G n0=true)(b:∀a:Nat,a<=n->∀Q:Prop,(a<n->Q)->kr (ks a) (T a) f key n0 S (λ_=>g) (λi=>i+1) Q (a:Int)):eu PP II false (aD II f key) n0 (S 0) g :=
 eu.ZH (ι:=Int) Hs (λi=>ks i.toNat) (λi=>bm PP II (T i.toNat)) 1000 n0 (λi=> ∃a:Nat,i=(a:Int)/\a<=n) S (λ_=>g) (λi=>n-i.toNat) (λi=>i+1) 0 c ⟨0,rfl,t_ n⟩ λi ⟨a,e,ha⟩=>by
  subst e
  exact b a ha _ λh=>⟨⟨a+1,rfl,h⟩,(by show n-((a:Int)+1).toNat<n-(a:Int).toNat;omega),rfl⟩
theorem eu.wL(ks:List (aC PP II)){f key n0:Nat}{S:Int->St}{g:GE}{n:Nat}(c:p_ II.G n0=true)(b:∀a:Nat,a<=n->∀Q:Prop,(a<n->Q)->kr ks [] f key n0 S (λ_=>g) (λi=>i+1) Q (a:Int)):eu PP II false (aD II f key) n0 (S 0) g:=eu.CS (λ_=>ks) (λ_=>[]) c b
theorem bY{ks T f args a'}(b:∀σ,S_ σ a' a')(h:kb ks T f args (λa=>a=a')):af PP II f args (b_ 12) (.ret a' (b_ 12)):=
 af.VB Hs ks (bm PP II T) 1000 b h
theorem aa.iff{b x}:aa b x↔b=true/\x:=by cases b with|true=>exact⟨λh=>⟨rfl,h⟩,λh=>h.2⟩|false=>exact⟨λh=>h.elim,λh=>by cases h.1⟩
theorem aq{n}(a : -9223372036854775808<=n)(b:n<=9223372036854775807):aN a_ n=true:=by
 simp only[aN,bf,iH]
 exact⟨a,b⟩
theorem nK{n}:aN a_ n=true↔ -9223372036854775808<=n/\n<=9223372036854775807:=by
 simp only[aN,bf,iH]
 exact Iff.rfl
theorem Ib(n lo hi)(Q):(kb [] [] 120 [.int a_ n,.int a_ lo,.int a_ hi] Q)=(ah (z (n>=lo)) (Q (i_ (z (n<=hi)))) (Q (i_ false))):=U
theorem Ic(n lo hi):af PP II 120 [.int a_ n,.int a_ lo,.int a_ hi] (b_ 12) (.ret (.bool (z (n>=lo)&&z (n<=hi))) (b_ 12)):=by
 refine bY (ks:=[]) (T:=[]) (λ_=>rfl) ((Ib n lo hi _).mpr ?_)
 refine Zh (λh=>?_) (λh=>?_)
 ·rw[h,Bool.true_and]
 ·rw[h,Bool.false_and]
noncomputable def GB:aC PP II:=aC.pure 120
 (λX args a=>match args with
  |[.int a_ n,.int a_ lo,.int a_ hi]=>a (.bool (z (n>=lo)&&z (n<=hi)))
  |_=>X.fail)
 λX sem hX args a h=>by
  split at h
  ·exact⟨_,h,λ_=>rfl,λ_=>rfl,Ic _ _ _⟩
  ·exact zR
theorem PS(c n)(Q):(kb [] [] 18 [.int a_ c,.int a_ n] Q)=(ah (z (c<(0:Int))) (aa (aN a_ (c+(1:Int))) (aa (aN a_ ((0:Int)-(c+(1:Int)))) (aa (!decide (n=(0:Int))) (Q (c_ a_ (n_ ((0:Int)-(c+(1:Int))) n)))))) (aa (!decide (n=(0:Int))) (Q (c_ a_ (n_ c n))))):=U
theorem Ie(c n)(Q):(kb [] [] 88 [.int a_ c,.int a_ n] Q)=(ah (z (c<(0:Int))) (aa (aN a_ (c+(1:Int))) (aa (aN a_ ((0:Int)-(c+(1:Int)))) (aa (!decide (n=(0:Int))) (Q (c_ a_ (n_ ((0:Int)-(c+(1:Int))) n)))))) (aa (!decide (n=(0:Int))) (Q (c_ a_ (n_ c n))))):=U
def av(c n:Int):Int:=match z (c<0)with|true=>(-(c+1))%n|false=>c%n
theorem cj{c n}(hn:0<n):0<=av c n/\av c n<n:=by
 unfold av
 split<;>exact⟨Int.emod_nonneg _ O,Int.emod_lt_of_pos _ hn⟩
theorem PT{c n}(b:aN a_ c=true)(hn:0<n):af PP II 18 [.int a_ c,.int a_ n] (b_ 12) (.ret (.int a_ (av c n)) (b_ 12)):=by
 rw[nK]at b
 refine bY (ks:=[]) (T:=[]) (λ_=>⟨rfl,rfl⟩) ((PS c n _).mpr (Zh (λh=>?_) (λh=>?_)))
 ·have a:=h
  simp only[bn]at a
  refine Ze (aq O O) (Ze (aq O O) (Ze zJ ?_))
  unfold av
  grind
 ·have a:=h
  simp only[iK]at a
  refine Ze zJ ?_
  unfold av
  grind
theorem Ig{c n}(b:aN a_ c=true)(hn:0<n):af PP II 88 [.int a_ c,.int a_ n] (b_ 12) (.ret (.int a_ (av c n)) (b_ 12)):=by
 rw[nK]at b
 refine bY (ks:=[]) (T:=[]) (λ_=>⟨rfl,rfl⟩) ((Ie c n _).mpr (Zh (λh=>?_) (λh=>?_)))
 ·have a:=h
  simp only[bn]at a
  refine Ze (aq O O) (Ze (aq O O) (Ze zJ ?_))
  unfold av
  grind
 ·have a:=h
  simp only[iK]at a
  refine Ze zJ ?_
  unfold av
  grind
noncomputable def adX(f:FuncId)(d:f=18∨f=88):aC PP II:=aC.pure f
 (λX args b=>match args with
  |[.int a_ c,.int a_ n]=>X.bq (aN a_ c&&z (0<n)) (b (.int a_ (av c n)))
  |_=>X.fail)
 λX sem hX args b h=>by
  split at h
  ·obtain⟨a,e⟩:=hX.bq _ _ h
   simp only[bf,bn]at a
   refine⟨_,e,λ_=>rfl,λ_=>rfl,?_⟩
   rcases d with rfl|rfl
   ·exact PT a.1 a.2
   ·exact Ig a.1 a.2
  ·exact zR
def sP(a b:Int):Int:=if a<b then -1 else if a>b then 1 else 0
theorem Ek(a b)(Q):(kb [] [] 99 [.int a_ a,.int a_ b] Q)=(ah (!decide (a=a)) (ah (!decide (b=b)) (Q (c_ a_ 0)) (Q (c_ a_ (-1:Int)))) (ah (!decide (b=b)) (Q (c_ a_ 1)) (ah (z (a<b)) (Q (c_ a_ (-1:Int))) (ah (z (a>b)) (Q (c_ a_ 1)) (Q (c_ a_ 0)))))):=U
theorem El(a b):af PP II 99 [.int a_ a,.int a_ b] (b_ 12) (.ret (.int a_ (sP a b)) (b_ 12)):=by
 refine bY (ks:=[]) (T:=[]) (λ_=>⟨rfl,rfl⟩) ((Ek a b _).mpr ?_)
 unfold sP
 refine Zh zA (λ_=>Zh zA (λ_=>Zh (λh=>?_) (λh=>Zh (λc=>?_) (λc=>?_))))
 all_goals grind
noncomputable def ov:aC PP II:=aC.pure 99
 (λX args c=>match args with
  |[.int a_ a,.int a_ b]=>c (.int a_ (sP a b))
  |_=>X.fail)
 λX sem hX args c h=>by
  split at h
  ·exact⟨_,h,λ_=>rfl,λ_=>rfl,El _ _⟩
  ·exact zR
def U9(a b:Int):Int:=if a=0 then b else a
theorem Wi(a b)(Q):(kb [] [] 145 [.ab 2 1 (λi=>match i with|0=>[.int a_ a]|_=>[.int a_ b])] Q)=(ah (!decide (a=(0:Int))) (Q (c_ a_ a)) (aa (aN a_ (1:Int)) (ah (!decide (b=(0:Int))) (Q (c_ a_ b)) (aa (aN a_ (2:Int)) (Q (c_ a_ (0:Int))))))):=U
theorem Wj(a b):af PP II 145 [.ab 2 1 (λi=>match i with|0=>[.int a_ a]|_=>[.int a_ b])] (b_ 12) (.ret (.int a_ (U9 a b)) (b_ 12)):=by
 refine bY (ks:=[]) (T:=[]) (λ_=>⟨rfl,rfl⟩) ((Wi a b _).mpr ?_)
 unfold U9
 repeat' (first|refine Zh (λ_=>?_) (λ_=>?_)|refine Ze (aq O O) ?_)
 all_goals simp_all
theorem aU.tQ{ρ a b vs}(h:bt.le (λl=>l) a b)(k:aU ρ a vs):aU ρ b vs:=aU.le a b vs h k
theorem af.dq{P I f args a H o}(h:af P I f a H o)(k:bt.le (λl=>l) args a):af P I f args H o :=
 λc ρ w vs hG b d=>h c ρ w vs hG (aU.tQ k b) d
noncomputable def Yz:aC PP II:=aC.pure 145
 (λX args c=>match args with
  |[.ab 2 1 f]=>match f 0,f 1 with
   |[.int a_ a],[.int a_ b]=>c (.int a_ (U9 a b))
   |_,_=>X.fail
  |_=>X.fail)
 λX sem hX args c h=>by
  split at h
  ·split at h
   ·rename_i f _ _ a b d e
    refine⟨_,h,λ_=>rfl,λ_=>rfl,(Wj a b).dq ⟨⟨rfl,rfl,λi hi=>?_⟩,trivial⟩⟩
    match i,hi with
    |0,_=>rw[d];exact⟨⟨rfl,rfl⟩,trivial⟩
    |1,_=>rw[e];exact⟨⟨rfl,rfl⟩,trivial⟩
   ·exact zR
  ·exact zR
structure ay where
 (t s v w o p d l h b:Int)
 deriving DecidableEq
def eD(x:ay):List AV:=[.int a_ x.t,.int a_ x.s,.int a_ x.v,.int a_ x.w,.int a_ x.o,.int a_ x.p,.int a_ x.d,.int a_ x.l,.int a_ x.h,.int a_ x.b]
def OQ:List AV->Option ay
 |[.int a_ t,.int a_ s,.int a_ v,.int a_ w,.int a_ o,.int a_ p,.int a_ d,.int a_ l,.int a_ h,.int a_ b]=>Option.some ⟨t,s,v,w,o,p,d,l,h,b⟩
 |_=>Option.none
theorem fK{cs x}(h:OQ cs=Option.some x):cs=eD x:=by
 unfold OQ at h
 split at h
 ·cases h;rfl
 ·cases h
theorem Lq(x)(Q):(kb [GB] [] 58 [.agg (eD x)] Q)=(ah (z (x.t>=0)&&z (x.t<=999)) (ah (z (x.s>=0)&&z (x.s<=9)) (ah (z (x.v>=0)&&z (x.v<=7)) (ah (z (x.w>=0)&&z (x.w<=9)) (ah (z (x.o>=0)&&z (x.o<=11)) (ah (z (x.p>=(-1:Int))&&z (x.p<=19)) (aa (aN a_ (j_ x.t 10)) (ah (z (x.d=j_ x.t 10)) (ah (z (x.l>=0)&&z (x.l<=x.h)) (ah (z (x.h<=4398046511104)) (Q (i_ (z (x.b>=0)&&z (x.b<=24000)))) (Q (i_ false))) (Q (i_ false))) (Q (i_ false)))) (Q (i_ false))) (Q (i_ false))) (Q (i_ false))) (Q (i_ false))) (Q (i_ false))) (Q (i_ false))):=U
theorem Em(x y)(Q):(kb [ov,Yz] [] 90 [.agg (eD x),.agg (eD y)] Q)=(aa (z (ay.s x=ay.s x)) (aa (z (ay.s y=ay.s y)) (Q (c_ a_ (U9 (sP (ay.t x) (ay.t y)) (sP (ay.s x) (ay.s y))))))):=U
def bB(x:ay):Bool :=
 (z (x.t>=0)&&z (x.t<=999))&&(z (x.s>=0)&&z (x.s<=9))&&(z (x.v>=0)&&z (x.v<=7))&&(z (x.w>=0)&&z (x.w<=9))&&(z (x.o>=0)&&z (x.o<=11))&&
 (z (x.p>= -1)&&z (x.p<=19))&&z (x.d=j_ x.t 10)&&(z (x.l>=0)&&z (x.l<=x.h))&&z (x.h<=4398046511104)&&(z (x.b>=0)&&z (x.b<=24000))
theorem Lr(x):af PP II 58 [.agg (eD x)] (b_ 12) (.ret (.bool (bB x)) (b_ 12)):=by
 refine bY (ks:=[GB]) (T:=[]) (λ_=>rfl) ((Lq x _).mpr ?_)
 unfold bB
 repeat' (first
  |(refine aa.iff.2 ⟨?_,?_⟩)
  |(refine Zh (λh=>?_) (λh=>?_)))
 all_goals(try simp only[*,Bool.true_and,Bool.false_and,Bool.and_true,Bool.and_false])
 simp only[bf,bn]at*
 exact aq Y Y
noncomputable def nL:aC PP II:=aC.pure 58
 (λX args a=>match args with
  |[.agg cs]=>match OQ cs with
   |some x=>a (.bool (bB x))
   |none=>X.fail
  |_=>X.fail)
 λX sem hX args a h=>by
  split at h
  ·split at h
   ·rename_i cs x hx
    have:=fK hx
    subst this
    exact⟨_,h,λ_=>rfl,λ_=>rfl,Lr _⟩
   ·exact zR
  ·exact zR
def lr(x y:ay):Int:=U9 (sP x.t y.t) (sP x.s y.s)
theorem En(x y):af PP II 90 [.agg (eD x),.agg (eD y)] (b_ 12) (.ret (.int a_ (lr x y)) (b_ 12)):=
 bY (ks:=[ov,Yz]) (T:=[]) (λ_=>⟨rfl,rfl⟩) ((Em x y _).mpr (Ze zA (Ze zA A)))
noncomputable def mH:aC PP II:=aC.pure 90
 (λX args a=>match args with
  |[.agg cs,.agg ds]=>match OQ cs,OQ ds with
   |some x,some y=>a (.int a_ (lr x y))
   |_,_=>X.fail
  |_=>X.fail)
 λX sem hX args a h=>by
  split at h
  ·split at h
   ·rename_i cs ds _ _ x y hx b
    have c:=fK hx
    have d:=fK b
    subst c d
    exact⟨_,h,λ_=>rfl,λ_=>rfl,En _ _⟩
   ·exact zR
  ·exact zR
def vo(n:Nat)(F:Nat->ay):AV:=.ab n 10 (λi=>eD (F i))
noncomputable def Va(n:Nat)(F:Nat->ay)(i:Int):St:={t:=h_ [(0,vo n F),(1,.fn 90 [] []),(5,.int a_ i)],nt:=25,H:=b_ 12,df:=[]}
noncomputable def Vb(n:Nat)(F:Nat->ay)(b:Bool):GE:=.cond b (.one (.x 0 {t:=.e,nt:=25,H:=b_ 12,df:=[]})) (.one (.r {t:=h_ [(4,.bool false)],nt:=25,H:=b_ 12,df:=[]}))
theorem BL(n)(F)(b)(i)(Q):(kr [mH] [] 91 2002 12 (Va n F) (λ_=>Vb n F b) (λi=>i-1) Q i)=(ah (z (i>0)) (aa (z (0<=i)&&z (i<M n)) (aa (aN a_ (i-1)) (aa (z (0<=i-1)&&z (i-1<M n)) (ah (z (lr (F i.toNat) (F (k_ (i-1)))<0)) (ah b False (false=false/\True)) (aa (aN a_ (i-1)) (zyI (i-1) (zyN n ((an n (λi=>eD (F i)) λi=>eD (F i))/\Q)))))))) (ah b True False)):=U
theorem Ih(n)(F)(b)(Q):(kb [mH] [(2002,12,Va n F (n-1),Vb n F b)] 91 [vo n F,.fn 90 [] []] Q)=(aa (aN a_ (M n-1)) (eu PP II false (aD II 91 2002) 12 (Va n F (M n-1)) (Vb n F b)/\zyI (M n-1) (zyN n ((an n (λi=>eD (F i)) λi=>eD (F i))/\ah b (Q (i_ true)) (Q (i_ false)))))):=U
theorem cL(σ)(x):bt.le σ (eD x) (eD x):=⟨⟨rfl,rfl⟩,⟨rfl,rfl⟩,⟨rfl,rfl⟩,⟨rfl,rfl⟩,⟨rfl,rfl⟩,⟨rfl,rfl⟩,⟨rfl,rfl⟩,⟨rfl,rfl⟩,⟨rfl,rfl⟩,⟨rfl,rfl⟩,trivial⟩
def fL(F:Nat->ay):Nat->Bool
 |0=>true
 |k+1=>!decide (lr (F (k+1)) (F k)<0)&&fL F k
theorem BM(n)(F)(hn:n<=1000000):eu PP II false (aD II 91 2002) 12 (Va n F (M n-1)) (Vb n F (fL F (n-1))):=
 eu.of (ι:=Int) Hs [mH] (bm PP II []) 1000 12 (λi=> -1<=i/\i<n/\fL F (n-1)=fL F i.toNat) (Va n F) (λ_=>Vb n F (fL F (n-1))) (λi=>(i+1).toNat) (λi=>i-1) (M n-1) A
  Y λi ⟨h1,c,a⟩=>by
  refine(BL n F _ i _).mpr (Zh (λh=>?_) λh=>?_)
  ·simp only[bn]at h
   obtain⟨k,rfl⟩:∃k:Nat,i=(k:Int)+1:=⟨i.toNat-1,O⟩
   have e1:((k:Int)+1).toNat=k+1:=O
   have b:((k:Int)+1-1).toNat=k:=O
   rw[e1,b]
   rw[e1]at a
   simp only[fL]at a
   refine Ze Y (Ze (aq O O) (Ze zJ (Zh (λh=>?_) λh=>?_)))
   ·rw[a,h];exact⟨rfl,trivial⟩
   ·refine Ze (aq O O) (Zf A (YG A ⟨Zj λ_ _=>cL _ _,⟨O,O,?_⟩,O,rfl⟩))
    grind
  ·simp only[iK]at h
   have:i.toNat=0:=O
   rw[this]at a
   rw[a]
   trivial
theorem Ii(n)(F)(hn:n<=1000000):af PP II 91 [vo n F,.fn 90 [] []] (b_ 12) (.ret (.bool (fL F (n-1))) (b_ 12)):=by
 refine bY (T:=[(2002,12,Va n F (n-1),Vb n F (fL F (n-1)))]) (λ_=>rfl) ((Ih n F _ _).mpr (Ze (aq Y Y) ⟨BM n F hn,Zf A (YG A ⟨Zj λ_ _=>cL _ _,?_⟩)⟩))
 exact Zh (λh=>by rw[h]) λh=>by rw[h]
def bP(f:Nat->List AV)(i:Nat):ay:=match OQ (f i)with|some x=>x|none=>⟨0,0,0,0,0,0,0,0,0,0⟩
def fh(n:Nat)(f:Nat->List AV):Bool:=(u_ n).all λi=>(OQ (f i)).isSome
theorem fq{n f}(h:fh n f=true):S_ (λl=>l) (.ab n 10 f) (vo n (bP f)):=by
 refine⟨rfl,rfl,λi hi=>?_⟩
 have:=List.all_eq_true.1 h i (List.mem_range.2 hi)
 unfold bP
 cases hx:OQ (f i)with
 |none=>grind
 |some x=>simp only[hx];rw[fK hx];exact cL _ _
theorem gr(n)(F:Nat->ay):fh n (λi=>eD (F i))=true:=List.all_eq_true.2 λ_ _=>rfl
theorem Ag(F):bP (λi=>eD (F i))=F:=rfl
noncomputable def Ah:aC PP II:=aC.pure 91
 (λX args b=>match args with
  |[.ab n 10 f,.fn 90 [] []]=>X.bq (z (n<=1000000)&&fh n f) (b (.bool (fL (bP f) (n-1))))
  |_=>X.fail)
 λX sem hX args b h=>by
  split at h
  ·obtain⟨a,c⟩:=hX.bq _ _ h
   simp only[bf,bn]at a
   exact⟨_,c,λ_=>rfl,λ_=>rfl,(Ii _ _ a.1).dq ⟨fq a.2,⟨rfl,trivial,trivial⟩,trivial⟩⟩
  ·exact zR
def sQ(F:Nat->ay)(k:Nat):Bool:=bB (F k)&&(match k with|0=>true|k+1=>!decide (lr (F k) (F (k+1))>=0))
def wa(n:Nat)(F:Nat->ay):Bool:=(u_ n).all (sQ F)
noncomputable def Vc(n:Nat)(F:Nat->ay)(i:Int):St:={t:=h_ [(0,vo n F),(5,vo n F),(6,.int a_ n),(7,.int a_ i)],nt:=37,H:=b_ 12,df:=[]}
noncomputable def Vd(n:Nat)(F:Nat->ay)(b:Bool):GE:=.cond b (.one (.x 0 {t:=h_ [(0,vo n F)],nt:=37,H:=b_ 12,df:=[]})) (.one (.r {t:=h_ [(2,.bool false)],nt:=37,H:=b_ 12,df:=[]}))
theorem BN(n)(F)(b)(i)(Q):(kr [nL,mH,Ah] [] 39 2001 12 (Vc n F) (λ_=>Vd n F b) (λi=>i+1) Q i)=(let a:=(aa (aN a_ (i+1)) (zyI (i+1) (zyN n ((an n (λi=>eD (F i)) λi=>eD (F i))/\zyN n ((an n (λi=>eD (F i)) λi=>eD (F i))/\zyI (M n) Q)))));(ah (z (i<M n)) (aa (z (0<=i)&&z (i<M n)) (ah (!bB (F i.toNat)) (ah b False (false=false/\True)) (ah (z (i>0)) (aa (aN a_ (i-1)) (aa (z (0<=i-1)&&z (i-1<M n)) (ah (z (lr (F (k_ (i-1))) (F i.toNat)>=0)) (ah b False (false=false/\True)) a))) a))) (ah b (zyN n ((an n (λi=>eD (F i)) λi=>eD (F i))/\True)) False))):=U
theorem Ij(n)(F)(b)(Q):(kb [nL,mH,Ah] [(2001,12,Vc n F 0,Vd n F b)] 39 [vo n F] Q)=(eu PP II false (aD II 39 2001) 12 (Vc n F 0) (Vd n F b)/\zyN n ((an n (λi=>eD (F i)) λi=>eD (F i))/\zyN n ((an n (λi=>eD (F i)) λi=>eD (F i))/\zyI (M n) (ah b (ah (z (M n<=400)) (aa (z (n<=1000000)&&fh n λi=>eD (F i)) (Q (i_ (fL (bP λi=>eD (F i)) (n-1))))) (Q (i_ false))) (Q (i_ false)))))):=U
theorem V7{n k F}(a:k<n)(h:sQ F k=false):wa n F=false:=by
 unfold wa
 grind
theorem BO(n)(F)(hn:n<=1000000):eu PP II false (aD II 39 2001) 12 (Vc n F 0) (Vd n F (wa n F)):=
 eu.of (ι:=Int) Hs [nL,mH,Ah] (bm PP II []) 1000 12 (λi=>0<=i/\i<=n/\∀k:Nat,k<i->sQ F k=true) (Vc n F) (λ_=>Vd n F (wa n F)) (λi=>(n-i).toNat) (λi=>i+1) 0 A
  ⟨O,O,λk q=>O⟩ λi ⟨c,r,f⟩=>by
  obtain⟨k,rfl⟩:∃k:Nat,i=(k:Int):=⟨i.toNat,O⟩
  have b:k<n->sQ F k=true->((0:Int)<=(k:Int)+1/\(k:Int)+1<=n/\∀j:Nat,(j:Int)<(k:Int)+1->sQ F j=true):=Y
  refine(BN n F _ k _).mpr (Zh (λh=>?_) λh=>?_)
  ·simp only[bn]at h
   have a:k<n:=by have:(k:Int)<(n:Int):=h;omega
   have g:aN a_ ((k:Int)+1)=true:=aq O O
   rw[C_]
   refine Ze (by simp;exact a) (Zh (λh=>?_) λh=>?_)
   ·have:sQ F k=false:=by unfold sQ;simp only[Bool.not_eq_true']at h;rw[h];rfl
    rw[V7 a this];exact⟨rfl,trivial⟩
   ·simp only[Bool.not_eq_false']at h
    refine Zh (λe=>?_) λe=>?_
    ·simp only[bn]at e
     obtain⟨m,l⟩:∃m:Nat,k=m+1:=⟨k-1,O⟩
     have o:((k:Int)-1).toNat=m:=O
     have d:sQ F k=(bB (F k)&& !decide (lr (F m) (F k)>=0)):=by subst l;rfl
     rw[o]
     refine Ze (aq O O) (Ze zJ (Zh (λc=>?_) λc=>?_))
     ·rw[h,c]at d
      rw[V7 a d];exact⟨rfl,trivial⟩
     ·rw[h,c]at d
      rw[g]
      refine Zf A (YG A ⟨Zj λ_ _=>cL _ _,YG A ⟨Zj λ_ _=>cL _ _,Zf A ⟨b a d,?_,rfl⟩⟩⟩)
      omega
    ·simp only[iK]at e
     have:k=0:=O
     subst this
     have:sQ F 0=true:=by unfold sQ;rw[h];rfl
     refine Ze (by rfl) (YG A ⟨Zj λ_ _=>cL _ _,YG A ⟨Zj λ_ _=>cL _ _,Zf A Y⟩⟩)
  ·simp only[iK]at h
   have a :¬ k<n:=ZD
   have:wa n F=true:=List.all_eq_true.2 λj p=>f j (by have:=List.mem_range.1 p;omega)
   rw[this]
   exact YG A ⟨Zj λ_ _=>cL _ _,trivial⟩
def cX(n:Nat)(F:Nat->ay):Bool:=wa n F&&z (n<=400)&&fL F (n-1)
theorem yF(n)(F)(hn:n<=1000000):af PP II 39 [vo n F] (b_ 12) (.ret (.bool (cX n F)) (b_ 12)):=by
 refine bY (T:=[(2001,12,Vc n F 0,Vd n F (wa n F))]) (λ_=>rfl) ((Ij n F _ _).mpr ⟨BO n F hn,YG A ⟨Zj λ_ _=>cL _ _,YG A ⟨Zj λ_ _=>cL _ _,Zf A ?_⟩⟩⟩)
 unfold cX
 refine Zh (λh=>Zh (λa=>Ze ?_ ?_) λa=>?_) λh=>?_
 ·rw[gr];simp[hn]
 ·simp only[bn]at a
  have:n<=400:=by have:(n:Int)<=400:=a;omega
  rw[h,Ag,bW this];rfl
 all_goals grind
noncomputable def uT:aC PP II:=aC.pure 39
 (λX args a=>match args with
  |[.ab n 10 f]=>X.bq (z (n<=1000000)&&fh n f) (a (.bool (cX n (bP f))))
  |[.aw]=>a (.bool (cX 0 λ_=>⟨0,0,0,0,0,0,0,0,0,0⟩))
  |_=>X.fail)
 λX sem hX args a h=>by
  split at h
  ·obtain⟨b,c⟩:=hX.bq _ _ h
   simp only[bf,bn]at b
   exact⟨_,c,λ_=>rfl,λ_=>rfl,(yF _ _ b.1).dq ⟨fq b.2,trivial⟩⟩
  ·exact⟨_,h,λ_=>rfl,λ_=>rfl,(yF 0 _ O).dq ⟨rfl,trivial⟩⟩
  ·exact zR
noncomputable def bU:aC PP II where
 f:=269
 spec X args H b _:=match args with
  |[a]=>b a H
  |_=>X.fail
 ok X sem hX args H b kp h:=by
  split at h
  ·rename_i a
   refine⟨.ret a H,h,λc ρ w vs hG d g=> .inr ?_⟩
   simp only[aU]at d
   obtain⟨u,us,rfl,i,rfl⟩:=d
   refine⟨u,w,?_,ρ,Ext.refl ρ,g,i⟩
   rw[run_callFunc_extern (e:=Extern.AbiNoEscape.same) Go.Proofs.Tryz.func269 U U U U]
   rfl
  ·exact zR
def bA(n:Nat)(f:Nat->List AV):Bool:=(u_ n).all λi=>match f i with|[.int a_ _]=>true|_=>false
def aM(f:Nat->List AV)(i:Nat):Int:=match f i with|[.int a_ n]=>n|_=>0
def kh(n:Nat)(f:Nat->List AV):List Int:=(u_ n).map (aM f)
def j5:Nat->Nat->List Int
 |0,_=>[]
 |k+1,v=>((v%10000:Nat):Int)::j5 k (v/10000)
def ar(v:Nat):Nat:=if h:v=0 then 0 else ar (v/10000)+1
termination_by v
decreasing_by omega
def uB:List Int->Nat
 |[]=>0
 |x::xs=>x.toNat+10000*uB xs
theorem wb:∀(k v),(j5 k v).length=k
 |0,_=>rfl
 |k+1,v=>by simp[j5,wb k]
theorem DC:ar 0=0:=by rw[ar];simp
theorem rv{v}(h:v≠0):ar v=ar (v/10000)+1:=by rw[ar];simp[h]
theorem sR:∀(k v),uB (j5 k v)=v%10000^k
 |0,v=>by simp[j5,uB,P_]
 |k+1,v=>by
  simp only[j5,uB,sR k,C_]
  rw[l_,q_ (10000^k),Q_]
theorem eh:∀(k v),v<10000^k->ar v<=k
 |0,v,h=>by
  have:v=0:=by simpa using h
  rw[this,DC];exact t_ _
 |k+1,v,h=>by
  by_cases a:v=0
  ·rw[a,DC];exact t_ _
  ·rw[rv a]
   have:=eh k (v/10000) (by omega)
   omega
theorem fY(v):v<10000^ar v:=by
 induction v using Nat.strongRecOn with
 |_ v b=>
  by_cases a:v=0
  grind
  ·rw[rv a,l_]
   grind
theorem cN{k v}:ar v<=k↔v<10000^k :=
 ⟨λh=>Nat.lt_of_lt_of_le (fY v) (Nat.pow_le_pow_right (by omega) h),eh k v⟩
theorem mI{a b}(h:a<=b):ar a<=ar b:=eh _ _ (v_ h (fY b))
def ob(v i:Nat):Nat:=v/10000^i%10000
theorem sS(v):ob v 0=v%10000:=by simp[ob]
theorem sT(v i):ob v (i+1)=ob (v/10000) i:=by
 unfold ob
 rw[l_,q_,<-o_]
theorem kN(v i):ob v i<10000:=U_ _ (by omega)
theorem j6{v i}(h:ar v<=i):ob v i=0:=by
 unfold ob
 rw[D_ (cN.1 h)]
theorem ow:∀(k v i),i<k->(j5 k v)[i]? =Option.some ((ob v i:Nat):Int)
 |0,_,_,h=>by omega
 |k+1,v,0,_=>by simp[j5,sS]
 |k+1,v,i+1,h=>by
  simp only[j5,List.getElem?_cons_succ]
  rw[ow k _ i (by omega),sT]
def iW(d:Nat->Int):Nat->Int
 |0=>0
 |i+1=>iW d i+d i*10000^i
theorem wc(i):(0:Int)<10000^i:=Int.pow_pos (by omega)
def fu(d:Nat->Int)(i:Nat):Int:=iW d i/10000^i
theorem carry_zero(d):fu d 0=0:=by simp[fu,iW]
theorem yG(d)(i):d i+fu d i=iW d (i+1)/10000^i:=by
 unfold fu
 simp only[iW]
 rw[Int.add_mul_ediv_right _ _ (K_ (wc i)),Int.add_comm]
theorem qb{a b c:Int}(h:0<b):a/b/c=a/(b*c):=by rw[Int.ediv_ediv,if_neg (by omega),Int.sub_zero]
theorem carry_succ(d)(i):fu d (i+1)=(d i+fu d i)/10000:=by
 rw[yG]
 unfold fu
 rw[L_,qb (wc i)]
theorem we{d n}(h:∀j,n<=j->d j=0):∀k,iW d (n+k)=iW d n
 |0=>rfl
 |k+1=>by rw[<-H_,iW,h _ (by omega),M_,Int.add_zero,we h k]
theorem Im{d}(i k):iW d (i+k)%10000^i=iW d i%10000^i:=by
 induction k with
 |zero=>rfl
 |succ k a=>
  rw[<-H_,iW,Int.pow_add,N_ (10000^i),<-I_,Int.add_mul_emod_self_right,a]
theorem Lv{d}{v i j:Nat}(e:i<j)(b:iW d j=v):(d i+fu d i)%10000=((ob v i:Nat):Int):=by
 rw[yG]
 have c:iW d j%10000^(i+1)=iW d (i+1)%10000^(i+1):=by
  have:=Im (d:=d) (i+1) (j-(i+1))
  rwa[show i+1+(j-(i+1))=j by omega]at this
 have key:∀x:Int,(x%10000^(i+1))/10000^i=(x/10000^i)%10000:=λx=>by
  rw[O_,O_,L_]
  have a:=wc i
  rw[<-qb a,I_,Int.sub_eq_add_neg,<-Int.mul_neg,Int.add_mul_ediv_left _ _ (K_ a)]
  omega
 rw[<-key,<-c,key,b]
 rfl
def DA(a b:Nat):Int:=if a<b then -1 else if b<a then 1 else 0
theorem fZ(v i):v/10000^i=ob v i+10000*(v/10000^(i+1)):=by
 unfold ob
 rw[l_,<-o_]
 omega
theorem PU{a b}(h:ar a≠ar b):DA a b=if ar a<ar b then -1 else 1:=by
 unfold DA
 have c:ar a<ar b->a<b:=λh=>by
  rcases y_ a b with k|k
  ·exact k
  ·exact absurd (mI k) (by omega)
 have d:ar b<ar a->b<a:=λh=>by
  rcases y_ b a with k|k
  ·exact k
  ·exact absurd (mI k) (by omega)
 omega
theorem Lw{a b i}(h:a/10000^(i+1)=b/10000^(i+1))(d:ob a i≠ob b i):DA a b=if ob a i<ob b i then -1 else 1:=by
 have ha:=fZ a i
 have e:=fZ b i
 have mono:∀{x y:Nat},x/10000^i<y/10000^i->x<y:=λ{x y} h=>by
  rcases y_ x y with k|k
  ·exact k
  ·exact absurd (Nat.div_le_div_right (c:=10000^i) k) (by omega)
 unfold DA
 by_cases k:ob a i<ob b i
 grind
 ·have:b<a:=mono (by omega)
  omega
theorem Lx{a b i}(h:a/10000^(i+1)=b/10000^(i+1))(c:ob a i=ob b i):a/10000^i=b/10000^i:=by
 rw[fZ a i,fZ b i,h,c]
def sU(a m i:Nat):Nat:=a/10000^i%m
theorem Io{a m}(b:0<m)(i):(ob a i+10000*sU a m (i+1))/m=ob (a/m) i/\(ob a i+10000*sU a m (i+1))%m=sU a m i/\ob a i+10000*sU a m (i+1)<10000*m:=by
 unfold sU
 have e:=fZ a i
 have hx:=Nat.div_add_mod (a/10000^(i+1)) m
 have f:=U_ (a/10000^(i+1)) b
 generalize hX:a/10000^(i+1)=x at*
 generalize hQ:x/m=q at*
 generalize h:x%m=r at*
 have hl:=kN a i
 have c:a/10000^i=(ob a i+10000*r)+m*(10000*q):=by
  rw[e,<-hx,Nat.mul_add,<-J_,<-J_,q_ 10000 m];omega
 have d:ob a i+10000*r<10000*m:=by
  have:r+1<=m:=f
  have:=by omega
  omega
 refine⟨?_,?_,d⟩
 ·have g:ob (a/m) i=a/10000^i/m%10000:=by
   unfold ob
   rw[o_,o_,q_]
  rw[g,c,Nat.add_mul_div_left _ _ b,x_,g_]
  rw[A_ b];exact d
 ·rw[c,x_]
def fi(N V:Nat):Nat:=if V<10000^N then N else N+1
structure lu (N f:Nat) (e W a:Nat->Int):Prop where
 n:N<=100000
 l:f<=N+1
 c0:a 0=0
 TH:∀i,i<N->i<f
 TI:∀i,i<=f->a i≠0->i<f
 stop:∀i,i<=f->¬ i<N->a i=0->i=f
 db:∀i,i<f-> -10000<=e i/\e i<=200000000
 b:∀i,i<f-> -10000<=e i+a i/\e i+a i<=200000000
 w:∀i,i<f->(e i+a i)%10000=W i
 c:∀i,i<f->(e i+a i)/10000=a (i+1)
theorem lu.of{N V:Nat}{D}(hn:N<=100000)(q:∀j,N<=j->D j=0)(hV:iW D N=(V:Int))(s:V<10000^(N+1))(v:∀i,-10000<=D i/\D i<=199990000)
  (y:∀i,-10000<=D i+fu D i/\fu D i<=10000):lu N (fi N V) D (λi=>M (ob V i)) (fu D):=by
 have f:∀j,N<=j->iW D j=V:=λj m=>by
  obtain⟨k,rfl⟩:∃k,j=N+k:=⟨j-N,by omega⟩
  rw[we q,hV]
 have o:∀j,N<=j->(fu D j=0↔V<10000^j):=λj m=>by
  unfold fu
  rw[f j m]
  have e:((V:Int)/10000^j)=((V/10000^j:Nat):Int):=by simp only[Int.natCast_ediv,F_];rfl
  rw[e]
  have:=Nat.pow_pos (a:=10000) (n:=j) (by omega)
  constructor
  ·intro h
   have:V/10000^j=0:=by omega
   simp_all
  ·intro h;rw[D_ h];rfl
 have hL:N<=fi N V/\fi N V<=N+1:=by unfold fi;split<;>omega
 refine {n:=hn,l:=hL.2,c0:=carry_zero D,TH:=λi hi=>by omega,TI:=λi hi d=>?_,stop:=λi hi t h=>?_,db:=λi _=>by grind,b:=λi _=>by grind,w:=λi hi=>?_,c:=λi _=>(carry_succ D i).symm}
 ·refine Nat.lt_of_le_of_ne hi λe=>d ?_
  subst e
  rw[o _ hL.1]
  unfold fi
  grind
 ·have u:=(o i (by omega)).1 h
  by_cases e:i=N
  ·subst e;unfold fi;rw[if_pos u]
  ·omega
 ·exact Lv hi (f _ hL.1)
theorem mJ{x w c:Int}(a : -10000<=x)(b:x%10000=w)(d:x/10000=c):(x<0->x+10000=w/\ -1=c)/\(x>=10000->j_ x 10000=c/\n_ x 10000=w)/\(¬ x<0->¬ x>=10000->x=w/\0=c):=by
 grind
theorem kX(a):∀i,iW (λi=>M (ob a i)) i=((a%10000^i:Nat):Int)
 |0=>by simp[iW,P_]
 |i+1=>by
  rw[iW,kX a i,l_,Q_]
  have:M (ob a i)*10000^i=((10000^i*ob a i:Nat):Int):=by
   rw[Int.natCast_mul,F_,N_];rfl
  rw[this]
  unfold ob
  omega
theorem BP(d e):∀i,iW (λi=>d i+e i) i=iW d i+iW e i
 |0=>rfl
 |i+1=>by simp only[iW,BP d e i,R_];omega
theorem BQ(d e):∀i,iW (λi=>d i-e i) i=iW d i-iW e i
 |0=>rfl
 |i+1=>by simp only[iW,BQ d e i,Int.sub_mul];omega
theorem BR(d)(n):∀i,iW (λi=>d i*n) i=iW d i*n
 |0=>by simp[iW]
 |i+1=>by
  simp only[iW,BR d n i,R_]
  grind
theorem ry(a i):0<=M (ob a i)/\M (ob a i)<=9999:=by
 have:=kN a i
 grind
theorem lP{D lo hi}(a:lo<=0/\0<=hi)(h:∀i c,lo<=c->c<=hi->lo<=(D i+c)/10000/\(D i+c)/10000<=hi):∀i,lo<=fu D i/\fu D i<=hi
 |0=>by assumption
 |i+1=>by rw[carry_succ];have:=lP a h i;simp_all
theorem Ip{a b N}(ha:ar a<=N)(d:ar b<=N)(e:N<=100000):lu N (fi N (a+b)) (λi=>M (ob a i)+M (ob b i)) (λi=>M (ob (a+b) i)) (fu λi=>M (ob a i)+M (ob b i)):=by
 have f:=cN.1 ha
 have g:=cN.1 d
 have h:=lP (D:=λi=>M (ob a i)+M (ob b i)) (lo:=0) (hi:=1) (by omega) (λi c _ _=>by
  have:=ry a i;have:=ry b i
  omega)
 refine lu.of e (λj k=>?_) ?_ ?_ (λi=>?_) (λi=>?_)
 ·rw[j6 (by omega),j6 (by omega)];rfl
 ·rw[BP,kX,kX,g_ f,g_ g];rfl
 omega
 ·have:=ry a i;have:=ry b i;constructor<;>omega
 grind
theorem Eo{a b N}(d:b<=a)(ha:ar a<=N)(e:N<=100000):lu N (fi N (a-b)) (λi=>M (ob a i)-M (ob b i)) (λi=>M (ob (a-b) i)) (fu λi=>M (ob a i)-M (ob b i)):=by
 have f:=cN.1 ha
 have h:=lP (D:=λi=>M (ob a i)-M (ob b i)) (lo := -1) (hi:=0) (by omega) (λi c _ _=>by
  have:=ry a i;have:=ry b i
  omega)
 have g:=mI d
 refine lu.of e (λj k=>?_) ?_ ?_ (λi=>?_) (λi=>?_)
 ·rw[j6 (by omega),j6 (by omega)];rfl
 ·rw[BQ,kX,kX,g_ f,g_ (by omega)];omega
 omega
 ·have:=ry a i;have:=ry b i;constructor<;>omega
 ·have:=ry a i;have:=ry b i;grind
theorem PV{a n N}(hn:n<10000)(ha:ar a<=N)(b:N<=100000):lu N (fi N (a*n)) (λi=>M (ob a i)*(n:Int)) (λi=>M (ob (a*n) i)) (fu λi=>M (ob a i)*(n:Int)):=by
 have c:=cN.1 ha
 have e:∀i,0<=M (ob a i)*(n:Int)/\M (ob a i)*(n:Int)<=99980001:=λi=>by
  have d:=ry a i
  refine⟨by grind,?_⟩
  have:=Int.mul_le_mul d.2 (show(n:Int)<=9999 by omega) (by omega) (by omega)
  omega
 have f:=lP (D:=λi=>M (ob a i)*(n:Int)) (lo:=0) (hi:=9999) (by omega) (by grind)
 refine lu.of b (λj g=>?_) ?_ ?_ (λi=>?_) (λi=>?_)
 ·rw[j6 (by omega)];exact M_ _
 ·rw[BR,kX,g_ c];rfl
 ·rw[l_]
  exact v_ (B_ a (show n<=9999 by omega)) (by omega)
 all_goals grind
theorem TJ{a b N}(ha:ar a<=N)(c:ar b<=N):a+b<10000^(N+1):=by
 have d:=cN.1 ha
 have e:=cN.1 c
 omega
theorem PW{a b N}(ha:ar a<=N):a-b<10000^(N+1):=by
 have c:=cN.1 ha
 omega
theorem Ai{a n N}(hn:n<10000)(ha:ar a<=N):a*n<10000^(N+1):=by
 have b:=cN.1 ha
 rw[l_]
 exact v_ (B_ a (show n<=9999 by omega)) (by omega)
theorem Ly{N V}(h:V<10000^(N+1)):ar V<=fi N V:=by
 unfold fi
 split
 ·exact cN.2 ‹_›
 ·exact cN.2 h
def ae(W:Nat->Int):Nat->List AV:=λi=>[.int a_ (W i)]
def aO(v i:Nat):Int:=M (ob v i)
def aG(v:Nat):Nat->List AV:=ae (aO v)
theorem zM(σ)(W)(i):bt.le σ (ae W i) (ae W i):=⟨⟨rfl,rfl⟩,trivial⟩
theorem uq(σ)(v i):bt.le σ (aG v i) (aG v i):=⟨⟨rfl,rfl⟩,trivial⟩
def cO(k:Nat)(f:Nat->List AV):Bool:=(u_ k).all λi=>match f i with|[.int a_ n]=>z (0<=n)&&z (n<10000)|_=>false
def numOf(k:Nat)(f:Nat->List AV):Nat:=uB (kh k f)
noncomputable def Ep(v i:Nat):St:={t:=h_ [(0,.ab i 1 (aG v))],nt:=21,H:=b_ 12,df:=[]}
noncomputable def Iq(v n:Nat):GE:=.one (.x 0 (Ep v n))
theorem Ir(v i n)(Q):(kr [] [] 156 1012 12 (Ep v) (λ_=>Iq v n) (λi=>i-1) Q i)=(ah (z (M i>0)) (aa (aN a_ (M i-1)) (aa (z (0<=M i-1)&&z (M i-1<M i)) (ah (z (aO v (k_ (M i-1))=0)) (aa (aN a_ (M i-1)) (aa (z (0<=M i-1)&&z (M i-1<=M i)) (ax (k_ (M i-1-0)) (i-1) (an (k_ (M i-1-0)) (λi=>aG v (0+i)) (aG v)/\Q)))) (ax i n (zyR i (aG v) True))))) (ax i n (zyR i (aG v) True))):=U
theorem PX(v k n)(Q):(kb [] [(1012,12,Ep v k,Iq v n)] 156 [.ab k 1 (aG v)] Q)=(eu PP II false (aD II (156:Nat) (1012:Nat)) (12:Nat) (Ep v k) (Iq v n)/\zyN k (zyR k (aG v) (Q (s_ n (1:Nat) (aG v))))):=U
theorem Wl(W)(k)(i)(Q):(kb [] [] 162 [.ab k 1 (ae W),.int a_ i] Q)=(ah (z (i<M k)) (aa (z ((0:Int)<=i)&&z (i<M k)) (Q (c_ a_ (W i.toNat)))) (Q (c_ a_ (0:Int)))):=U
theorem nM{p q}[Decidable p][Decidable q](a:p)(b:q):(decide p&&decide q)=true:=Y
theorem wg(v n):an n (aG v) (aG v):=Zj λ_ _=>uq _ _ _
theorem wh{k f i}(hi:i<k):(kh k f)[i]? =Option.some (aM f i):=by
 unfold kh
 grind
theorem BS:∀(l),(∀x∈l,0<=x/\x<10000)->uB l<10000^l.length/\l=j5 l.length (uB l)
 |[],_=>⟨zC,rfl⟩
 |x::xs,h=>by
  obtain⟨a,b⟩:=BS xs ZD
  have hx:=h x List.mem_cons_self
  have e1:(x.toNat+10000*uB xs)%10000=x.toNat:=O
  have c:(x.toNat+10000*uB xs)/10000=uB xs:=O
  have d:((x.toNat:Nat):Int)=x:=O
  simp only[uB,List.length_cons,j5]
  grind
theorem j7{k f}(h:cO k f=true):numOf k f<10000^k/\∀i,i<k->f i=aG (numOf k f) i:=by
 have key:∀i,i<k->∃n,f i=[.int a_ n]/\0<=n/\n<10000:=λi hi=>by
  have:=List.all_eq_true.1 h i (List.mem_range.2 hi)
  grind
 have hl:(kh k f).length=k:=by simp[kh]
 have d:∀x∈kh k f,0<=x/\x<10000:=λx hx=>by
  unfold kh at hx
  obtain⟨i,hi,rfl⟩:=List.mem_map.1 hx
  obtain⟨n,e,a,b⟩:=key i (List.mem_range.1 hi)
  unfold aM;grind
 obtain⟨a,b⟩:=BS _ d
 rw[hl]at a b
 refine⟨a,λi hi=>?_⟩
 obtain⟨n,e,_,_⟩:=key i hi
 have c:=wh (f:=f) hi
 rw[b,ow _ _ _ hi]at c
 have g:aM f i=n:=by unfold aM;rw[e]
 rw[g]at c
 rw[e]
 show _=[c_ a_ _]
 congr 2
 exact(Option.some.inj c).symm
theorem gT{k f}(h:cO k f=true):S_ (λl=>l) (.ab k 1 f) (.ab k 1 (aG (numOf k f))):=
 ⟨rfl,rfl,λi hi=>by rw[(j7 h).2 i hi];exact uq _ _ _⟩
theorem cM(k v):cO k (aG v)=true:=List.all_eq_true.2 λi _=>by
 have:=kN v i
 show(decide _&&decide _)=true
 simp only[bf,bn]
 exact⟨w_ _,by show((ob v i:Nat):Int)<10000;omega⟩
theorem Er(k v):kh k (aG v)=j5 k v:=by
 refine List.ext_getElem? λi=>?_
 by_cases hi:i<k
 ·rw[wh hi,ow _ _ _ hi];rfl
 ·rw[z_ (by simp[kh];omega),z_ (by rw[wb];omega)]
theorem kY{k v}(h:ar v<=k):numOf k (aG v)=v:=by
 unfold numOf
 rw[Er,sR,g_ (cN.1 h)]
theorem Is{v k}(l:ar v<=k)(q:k<=1000000):eu PP II false (aD II 156 1012) 12 (Ep v k) (Iq v (ar v)):=
 eu.of (ι:=Nat) Hs [] (bm PP II []) 1000 12 (λi=>ar v<=i/\i<=k) (Ep v) (λ_=>Iq v (ar v)) (λi=>i) (λi=>i-1) k A ⟨l,dw _⟩ λi ⟨d,c⟩=>by
  have f:aN a_ (M i-1)=true:=aq Y Y
  have e1:k_ (M i-1)=i-1:=by show k_ ((i:Int)-1)=_;omega
  have m:k_ (M i-1-0)=i-1:=by show k_ ((i:Int)-1-0)=_;omega
  refine(Ir v i _ _).mpr ?_
  rw[e1,m]
  refine Zh (λh=>?_) λh=>?_
  ·have n:0<i:=by simp only[bn]at h;have:(0:Int)<(i:Int):=h;omega
   refine Ze f (Ze Y (Zh (λa=>?_) λa=>?_))
   ·have b:ob v (i-1)=0:=by simp only[bn]at a;exact Int.ofNat.inj a
    refine Ze f (Ze Y (YG A ⟨?_,⟨?_,O⟩,O,rfl⟩))
    ·intro j _ σ;show bt.le σ (aG v (0+j)) _;rw[Nat.zero_add];exact uq _ _ _
    ·refine Nat.le_of_not_lt λo=>?_
     have e:ar v=i:=O
     have p:v<10000^(i-1):=by
      have g:=fY v
      rw[e,show i=i-1+1 by omega]at g
      unfold ob at b
      have d:v/10000^(i-1)<10000:=by rw[A_ O];rwa[l_,q_]at g
      rw[g_ d]at b
      rcases Nat.div_eq_zero_iff.1 b with c|c
      ·omega
      ·exact c
     have:=eh _ _ p
     omega
   ·have b:ob v (i-1)≠0:=by simp only[iK]at a;exactλe=>a (by show M (ob v (i-1))=0;rw[e];rfl)
    refine YG ?_ ⟨wg _ _,trivial⟩
    have :¬ ar v<=i-1:=λe=>b (j6 e)
    omega
  ·have n:i=0:=by simp only[iK]at h;have :¬ (0:Int)<(i:Int):=h;omega
   exact YG O ⟨wg _ _,trivial⟩
theorem GC{v k}(a:ar v<=k)(b:k<=1000000):af PP II 156 [.ab k 1 (aG v)] (b_ 12) (.ret (.ab (ar v) 1 (aG v)) (b_ 12)):=
 bY (T:=[(1012,12,Ep v k,Iq v (ar v))]) (λ_=>⟨rfl,rfl,λ_ _=>uq _ _ _⟩) ((PX v k _ _).mpr ⟨Is a b,YG A ⟨wg _ _,rfl⟩⟩)
noncomputable def tS:aC PP II:=aC.pure 156
 (λX args a=>match args with
  |[.ab k 1 f]=>X.bq (cO k f&&p_ k 1000000) (a (.ab (ar (numOf k f)) 1 (aG (numOf k f))))
  |[.aw]=>a (.ab (ar 0) 1 (aG 0))
  |_=>X.fail)
 λX sem hX args a h=>by
  split at h
  ·obtain⟨b,c⟩:=hX.bq _ _ h
   simp only[bf]at b
   exact⟨_,c,λ_=>rfl,λ_=>rfl,(GC (eh _ _ (j7 b.1).1) ZD).dq ⟨gT b.1,trivial⟩⟩
  ·exact⟨_,h,λ_=>rfl,λ_=>rfl,(GC (v:=0) (k:=0) (by rw[DC];exact dw _) O).dq ⟨rfl,trivial⟩⟩
  ·exact zR
def bx(k:Nat)(f:Nat->List AV)(i:Int):Int:=match z (i<M k)with|true=>aM f i.toNat|false=>0
theorem cy{k f}(h:bA k f=true):S_ (λl=>l) (.ab k 1 f) (.ab k 1 (ae (aM f))):=⟨rfl,rfl,λi hi=>by
 have:=List.all_eq_true.1 h i (List.mem_range.2 hi)
 show bt.le _ (f i) [.int a_ (aM f i)]
 unfold aM
 split at this
 ·rename_i n hn;rw[hn];exact⟨⟨rfl,rfl⟩,trivial⟩
 ·cases this⟩
theorem dy(k)(W):bA k (ae W)=true:=List.all_eq_true.2 λ_ _=>rfl
theorem F6{W k i}(hi:0<=i):af PP II 162 [.ab k 1 (ae W),.int a_ i] (b_ 12) (.ret (.int a_ (bx k (ae W) i)) (b_ 12)):=
 bY (T:=[]) (ks:=[]) (λ_=>⟨rfl,rfl⟩) ((Wl W k i _).mpr (Zh (λh=>Ze Y (by unfold bx;rw[h];rfl)) λh=>by
  unfold bx;rw[h]))
noncomputable def rz:aC PP II:=aC.pure 162
 (λX args a=>match args with
  |[.ab k 1 f,.int a_ i]=>X.bq (bA k f&&z (0<=i)) (a (.int a_ (bx k f i)))
  |_=>X.fail)
 λX sem hX args a h=>by
  split at h
  ·obtain⟨b,c⟩:=hX.bq _ _ h
   simp only[bf]at b
   refine⟨_,c,λ_=>rfl,λ_=>rfl,?_⟩
   exact(F6 (W:=aM _) Y).dq ⟨cy b.1,⟨rfl,rfl⟩,trivial⟩
  ·exact zR
theorem oz{v k i}(a:ar v<=k):bx k (aG v) (M i)=M (ob v i):=by
 unfold bx
 cases h:z (M i<M k)with
 |true=>rfl
 |false=>
  simp only[iK]at h
  rw[j6]
  all_goals grind
noncomputable def qc(k:Nat)(a:Nat->Int):eT:=.cells [.ab k 1 (ae a)] (.ty 182)
noncomputable def Vi(n:Int):eT:=.cells [.int a_ n] (.ty 3)
noncomputable def l7(g:Nat)(x y:eT)(N:Nat)(W C:Nat->Int)(i:Bool×Nat×Int):St:=match i.1 with
 |false=>{t:=h_ [(0,.int a_ (M N)),(1,.int a_ (C 0)),(2,.fn g [] [.ptr 12 0 0 0,.ptr 13 0 0 0]),(7,.slice 14 0 0 0 (some (N+1)) 1),(8,.int a_ 0)],nt:=42,H:={n:=15,t:=h_ [(12,x),(13,y),(14,.rows 0 1 (ae W) (.ty 3))]},df:=[]}
 |true=>{t:=h_ [(0,.int a_ (M N)),(1,.int a_ (C i.2.1)),(2,.fn g [] [.ptr 12 0 0 0,.ptr 13 0 0 0]),(7,.own 15 i.2.1 1),(8,.int a_ i.2.2)],nt:=42,H:={n:=16,t:=h_ [(12,x),(13,y),(15,.rows i.2.1 1 (ae W) (.ty 3))]},df:=[]}
noncomputable def iq(N:Nat)(W:Nat->Int)(L:Nat):GE:=.cond (r_ L 0)
 (.one (.x 0 {t:=h_ [(7,.slice 14 0 0 0 (some (N+1)) 1)],nt:=42,H:={n:=15,t:=h_ [(14,.rows 0 1 (ae W) (.ty 3))]},df:=[]}))
 (.one (.x 0 {t:=h_ [(7,.own 15 L 1)],nt:=42,H:={n:=16,t:=h_ [(15,.rows L 1 (ae W) (.ty 3))]},df:=[]}))
def fb(e:Bool)(a b:Int):Int:=bif e then a+b else a-b
theorem BV(e:Bool)(k m N L)(a B W C)(Q){b}(c:b=(aa ((m_ (List.range.loop k []) λi=>true)&&true) (aa (z (m=m)&&true&&m_ (List.range.loop m []) λi=>z (B i=B i)&&true) (aa ((m_ (List.range.loop m []) λi=>true)&&true) (aa (aN a_ (fb e (bx k (ae a) 0) (bx m (ae B) 0))) (aa (aN a_ (fb e (bx k (ae a) 0) (bx m (ae B) 0)+C 0)) (ah (z (fb e (bx k (ae a) 0) (bx m (ae B) 0)+C 0<0)) (aa (aN a_ (fb e (bx k (ae a) 0) (bx m (ae B) 0)+C 0+10000)) (ah (z (N+1=0)) (aa (aN a_ 1) (an 1 (λi=>bif f_ i 0 then ae W (0+i)else d_ 1 (e_ (0+(i-0)*1) [c_ a_ (fb e (bx k (ae a) 0) (bx m (ae B) 0)+C 0+10000)])) (ae W)/\zyN m (zyR m (ae B) (zyN k (zyR k (ae a) (aH (-1:Int) (C 1) (zyI (M N) Q))))))) (aa (aN a_ 1) (an 1 (λi=>bif f_ i 0 then ae W (0+i)else d_ 1 (e_ (0+(i-0)*1) [c_ a_ (fb e (bx k (ae a) 0) (bx m (ae B) 0)+C 0+10000)])) (ae W)/\zyN m (zyR m (ae B) (zyN k (zyR k (ae a) (aH (-1:Int) (C 1) (zyI (M N) Q))))))))) (ah (z (fb e (bx k (ae a) 0) (bx m (ae B) 0)+C 0>=10000)) (aa (aN a_ (j_ (fb e (bx k (ae a) 0) (bx m (ae B) 0)+C 0) 10000)) (ah (z (N+1=0)) (aa (aN a_ 1) (an 1 (λi=>bif f_ i 0 then ae W (0+i)else d_ 1 (e_ (0+(i-0)*1) [c_ a_ (n_ (fb e (bx k (ae a) 0) (bx m (ae B) 0)+C 0) 10000)])) (ae W)/\zyN m (zyR m (ae B) (zyN k (zyR k (ae a) (aH (j_ (fb e (bx k (ae a) 0) (bx m (ae B) 0)+C 0) 10000) (C 1) (zyI (M N) Q))))))) (aa (aN a_ 1) (an 1 (λi=>bif f_ i 0 then ae W (0+i)else d_ 1 (e_ (0+(i-0)*1) [c_ a_ (n_ (fb e (bx k (ae a) 0) (bx m (ae B) 0)+C 0) 10000)])) (ae W)/\zyN m (zyR m (ae B) (zyN k (zyR k (ae a) (aH (j_ (fb e (bx k (ae a) 0) (bx m (ae B) 0)+C 0) 10000) (C 1) (zyI (M N) Q))))))))) (ah (z (N+1=0)) (aa (aN a_ 1) (an 1 (λi=>bif f_ i 0 then ae W (0+i)else d_ 1 (e_ (0+(i-0)*1) [c_ a_ (fb e (bx k (ae a) 0) (bx m (ae B) 0)+C 0)])) (ae W)/\zyN m (zyR m (ae B) (zyN k (zyR k (ae a) (aH 0 (C 1) (zyI (M N) Q))))))) (aa (aN a_ 1) (an 1 (λi=>bif f_ i 0 then ae W (0+i)else d_ 1 (e_ (0+(i-0)*1) [c_ a_ (fb e (bx k (ae a) 0) (bx m (ae B) 0)+C 0)])) (ae W)/\zyN m (zyR m (ae B) (zyN k (zyR k (ae a) (aH 0 (C 1) (zyI (M N) Q)))))))))))))))):(kr [rz] [] 160 3007 15 (l7 (bif e then 161 else 163) (qc k a) (qc m B) N W C) (λ_=>iq N W L) (λi=>(true,i.2.1+1,i.2.2+1)) Q (false,0,0))=(ah (z (0<M N)) b (ah (!decide (C 0=0)) b (ah (r_ L 0) (zyR 0 (ae W) (zyN (N+1) True)) (ax L 0 False)))):=by subst_vars;cases e<;>kernel_rfl
theorem BX(e:Bool)(k m N L i)(j)(a B W C)(Q){c}(d:c=(aa ((m_ (List.range.loop k []) λi=>true)&&z (0<=j)) (aa (z (m=m)&&true&&m_ (List.range.loop m []) λi=>z (B i=B i)&&true) (aa ((m_ (List.range.loop m []) λi=>true)&&z (0<=j)) (aa (aN a_ (fb e (bx k (ae a) j) (bx m (ae B) j))) (aa (aN a_ (fb e (bx k (ae a) j) (bx m (ae B) j)+C i)) (ah (z (fb e (bx k (ae a) j) (bx m (ae B) j)+C i<0)) (aa (aN a_ (fb e (bx k (ae a) j) (bx m (ae B) j)+C i+10000)) (aa (z (i<=i)&&true&&true&&z ((i+1)*8<=140737488355328)&&true) (aa (aN a_ (j+1)) (zyN (i+1) (an (i+1) (λb=>bif f_ b i then ae W b else d_ 1 (e_ (0+(b-i)*1) [c_ a_ (fb e (bx k (ae a) j) (bx m (ae B) j)+C i+10000)])) (ae W)/\zyN m (zyR m (ae B) (zyN k (zyR k (ae a) (zyN (i+1) (aH (-1:Int) (C (i+1)) (zyI (M N) (zyI (j+1) Q)))))))))))) (ah (z (fb e (bx k (ae a) j) (bx m (ae B) j)+C i>=10000)) (aa (aN a_ (j_ (fb e (bx k (ae a) j) (bx m (ae B) j)+C i) 10000)) (aa (z (i<=i)&&true&&true&&z ((i+1)*8<=140737488355328)&&true) (aa (aN a_ (j+1)) (zyN (i+1) (an (i+1) (λb=>bif f_ b i then ae W b else d_ 1 (e_ (0+(b-i)*1) [c_ a_ (n_ (fb e (bx k (ae a) j) (bx m (ae B) j)+C i) 10000)])) (ae W)/\zyN m (zyR m (ae B) (zyN k (zyR k (ae a) (zyN (i+1) (aH (j_ (fb e (bx k (ae a) j) (bx m (ae B) j)+C i) 10000) (C (i+1)) (zyI (M N) (zyI (j+1) Q)))))))))))) (aa (z (i<=i)&&true&&true&&z ((i+1)*8<=140737488355328)&&true) (aa (aN a_ (j+1)) (zyN (i+1) (an (i+1) (λb=>bif f_ b i then ae W b else d_ 1 (e_ (0+(b-i)*1) [c_ a_ (fb e (bx k (ae a) j) (bx m (ae B) j)+C i)])) (ae W)/\zyN m (zyR m (ae B) (zyN k (zyR k (ae a) (zyN (i+1) (aH 0 (C (i+1)) (zyI (M N) (zyI (j+1) Q))))))))))))))))))):(kr [rz] [] 160 3007 15 (l7 (bif e then 161 else 163) (qc k a) (qc m B) N W C) (λ_=>iq N W L) (λi=>(true,i.2.1+1,i.2.2+1)) Q (true,i,j))=(ah (z (j<M N)) c (ah (!decide (C i=0)) c (ah (r_ L 0) False (ax i L (zyR i (ae W) (ax i L True)))))):=by subst_vars;cases e<;>kernel_rfl
theorem PY(k m N L)(a B W C)(Q){b}(c:b=(if M m>M k then M m else M k)):(kb [tS] [(3007,15,l7 161 (qc k a) (qc m B) N W C (false,0,0),iq N W L)] 108 [.ab k 1 (ae a),.ab m 1 (ae B)] Q)=(aa (aN a_ (b+1)) (aa (z (0<=b+1)&&xF (8*(b+1)) 281474976710656&&xF (b+1) 9223372036854775807) (eu PP II false (aD II 160 3007) 15 (l7 161 (eT.cells [s_ k 1 (ae a)] (Access.ty 182)) (eT.cells [s_ m 1 (ae B)] (Access.ty 182)) N W C (false,0,0)) (iq N W L)/\an 0 (λx=>[c_ a_ 0]) (ae W)/\zyN m (zyR m (ae B) (zyN k (zyR k (ae a) (ax (k_ (b+1)) (N+1) (aH 0 (C 0) (aH b (M N) (ah (r_ L 0) (aa ((cO 0 λi=>ae W (0+i))&&true) (Q (s_ (ar (numOf 0 λi=>ae W (0+i))) 1 (aG (numOf 0 λi=>ae W (0+i)))))) (aa ((m_ (List.range.loop L []) λi=>true)&&z (L<=L)) (aa (cO L (ae W)&&p_ L 1000000) (Q (s_ (ar (numOf L (ae W))) 1 (aG (numOf L (ae W))))))))))))))))):=by subst_vars;kernel_rfl
theorem Lz(k m N L)(a B W C)(Q):(kb [tS] [(3007,15,l7 163 (qc k a) (qc m B) N W C (false,0,0),iq N W L)] 110 [.ab k 1 (ae a),.ab m 1 (ae B)] Q)=(aa (aN a_ (M k+1)) (aa (z (0<=M k+1)&&xF (8*(M k+1)) 281474976710656&&xF (M k+1) 9223372036854775807) (eu PP II false (aD II 160 3007) 15 (l7 163 (eT.cells [s_ k 1 (ae a)] (Access.ty 182)) (eT.cells [s_ m 1 (ae B)] (Access.ty 182)) N W C (false,0,0)) (iq N W L)/\an 0 (λx=>[c_ a_ 0]) (ae W)/\zyN m (zyR m (ae B) (zyN k (zyR k (ae a) (ax (k_ (M k+1)) (N+1) (aH 0 (C 0) (aH (M k) (M N) (ah (r_ L 0) (aa ((cO 0 λi=>ae W (0+i))&&true) (Q (s_ (ar (numOf 0 λi=>ae W (0+i))) 1 (aG (numOf 0 λi=>ae W (0+i)))))) (aa ((m_ (List.range.loop L []) λi=>true)&&z (L<=L)) (aa (cO L (ae W)&&p_ L 1000000) (Q (s_ (ar (numOf L (ae W))) 1 (aG (numOf L (ae W))))))))))))))))):=U
theorem LA(k N L)(b)(a W C)(Q){c}(d:c=(aa ((m_ (List.range.loop k []) λi=>true)&&true) (aa (z (b=b)) (aa (aN a_ (bx k (ae a) 0*b)) (aa (aN a_ (bx k (ae a) 0*b+C 0)) (ah (z (bx k (ae a) 0*b+C 0<0)) (aa (aN a_ (bx k (ae a) 0*b+C 0+10000)) (ah (z (N+1=0)) (aa (aN a_ 1) (an 1 (λi=>bif f_ i 0 then ae W (0+i)else d_ 1 (e_ (0+(i-0)*1) [c_ a_ (bx k (ae a) 0*b+C 0+10000)])) (ae W)/\zyI b (zyN k (zyR k (ae a) (aH (-1:Int) (C 1) (zyI (M N) Q)))))) (aa (aN a_ 1) (an 1 (λi=>bif f_ i 0 then ae W (0+i)else d_ 1 (e_ (0+(i-0)*1) [c_ a_ (bx k (ae a) 0*b+C 0+10000)])) (ae W)/\zyI b (zyN k (zyR k (ae a) (aH (-1:Int) (C 1) (zyI (M N) Q)))))))) (ah (z (bx k (ae a) 0*b+C 0>=10000)) (aa (aN a_ (j_ (bx k (ae a) 0*b+C 0) 10000)) (ah (z (N+1=0)) (aa (aN a_ 1) (an 1 (λi=>bif f_ i 0 then ae W (0+i)else d_ 1 (e_ (0+(i-0)*1) [c_ a_ (n_ (bx k (ae a) 0*b+C 0) 10000)])) (ae W)/\zyI b (zyN k (zyR k (ae a) (aH (j_ (bx k (ae a) 0*b+C 0) 10000) (C 1) (zyI (M N) Q)))))) (aa (aN a_ 1) (an 1 (λi=>bif f_ i 0 then ae W (0+i)else d_ 1 (e_ (0+(i-0)*1) [c_ a_ (n_ (bx k (ae a) 0*b+C 0) 10000)])) (ae W)/\zyI b (zyN k (zyR k (ae a) (aH (j_ (bx k (ae a) 0*b+C 0) 10000) (C 1) (zyI (M N) Q)))))))) (ah (z (N+1=0)) (aa (aN a_ 1) (an 1 (λi=>bif f_ i 0 then ae W (0+i)else d_ 1 (e_ (0+(i-0)*1) [c_ a_ (bx k (ae a) 0*b+C 0)])) (ae W)/\zyI b (zyN k (zyR k (ae a) (aH 0 (C 1) (zyI (M N) Q)))))) (aa (aN a_ 1) (an 1 (λi=>bif f_ i 0 then ae W (0+i)else d_ 1 (e_ (0+(i-0)*1) [c_ a_ (bx k (ae a) 0*b+C 0)])) (ae W)/\zyI b (zyN k (zyR k (ae a) (aH 0 (C 1) (zyI (M N) Q)))))))))))))):(kr [rz] [] 160 3007 15 (l7 213 (qc k a) (Vi b) N W C) (λ_=>iq N W L) (λi=>(true,i.2.1+1,i.2.2+1)) Q (false,0,0))=(ah (z (0<M N)) c (ah (!decide (C 0=0)) c (ah (r_ L 0) (zyR 0 (ae W) (zyN (N+1) True)) (ax L 0 False)))):=by subst_vars;kernel_rfl
theorem LB(k N L i)(b)(j)(a W C)(Q){d}(e:d=(aa ((m_ (List.range.loop k []) λi=>true)&&z (0<=j)) (aa (z (b=b)) (aa (aN a_ (bx k (ae a) j*b)) (aa (aN a_ (bx k (ae a) j*b+C i)) (ah (z (bx k (ae a) j*b+C i<0)) (aa (aN a_ (bx k (ae a) j*b+C i+10000)) (aa (z (i<=i)&&true&&true&&z ((i+1)*8<=140737488355328)&&true) (aa (aN a_ (j+1)) (zyN (i+1) (an (i+1) (λc=>bif f_ c i then ae W c else d_ 1 (e_ (0+(c-i)*1) [c_ a_ (bx k (ae a) j*b+C i+10000)])) (ae W)/\zyI b (zyN k (zyR k (ae a) (zyN (i+1) (aH (-1:Int) (C (i+1)) (zyI (M N) (zyI (j+1) Q))))))))))) (ah (z (bx k (ae a) j*b+C i>=10000)) (aa (aN a_ (j_ (bx k (ae a) j*b+C i) 10000)) (aa (z (i<=i)&&true&&true&&z ((i+1)*8<=140737488355328)&&true) (aa (aN a_ (j+1)) (zyN (i+1) (an (i+1) (λc=>bif f_ c i then ae W c else d_ 1 (e_ (0+(c-i)*1) [c_ a_ (n_ (bx k (ae a) j*b+C i) 10000)])) (ae W)/\zyI b (zyN k (zyR k (ae a) (zyN (i+1) (aH (j_ (bx k (ae a) j*b+C i) 10000) (C (i+1)) (zyI (M N) (zyI (j+1) Q))))))))))) (aa (z (i<=i)&&true&&true&&z ((i+1)*8<=140737488355328)&&true) (aa (aN a_ (j+1)) (zyN (i+1) (an (i+1) (λc=>bif f_ c i then ae W c else d_ 1 (e_ (0+(c-i)*1) [c_ a_ (bx k (ae a) j*b+C i)])) (ae W)/\zyI b (zyN k (zyR k (ae a) (zyN (i+1) (aH 0 (C (i+1)) (zyI (M N) (zyI (j+1) Q))))))))))))))))):(kr [rz] [] 160 3007 15 (l7 213 (qc k a) (Vi b) N W C) (λ_=>iq N W L) (λi=>(true,i.2.1+1,i.2.2+1)) Q (true,i,j))=(ah (z (j<M N)) d (ah (!decide (C i=0)) d (ah (r_ L 0) False (ax i L (zyR i (ae W) (ax i L True)))))):=by subst_vars;kernel_rfl
theorem Wm(k N L)(b)(a W C)(Q):(kb [tS] [(3007,15,l7 213 (qc k a) (Vi b) N W C (false,0,0),iq N W L)] 157 [.ab k 1 (ae a),.int a_ b] Q)=(aa (aN a_ (M k+1)) (aa (z (0<=M k+1)&&xF (8*(M k+1)) 281474976710656&&xF (M k+1) 9223372036854775807) (eu PP II false (aD II 160 3007) 15 (l7 213 (eT.cells [s_ k 1 (ae a)] (Access.ty 182)) (eT.cells [c_ a_ b] (Access.ty 3)) N W C (false,0,0)) (iq N W L)/\an 0 (λx=>[c_ a_ 0]) (ae W)/\zyI b (zyN k (zyR k (ae a) (ax (k_ (M k+1)) (N+1) (aH 0 (C 0) (aH (M k) (M N) (ah (r_ L 0) (aa ((cO 0 λi=>ae W (0+i))&&true) (Q (s_ (ar (numOf 0 λi=>ae W (0+i))) 1 (aG (numOf 0 λi=>ae W (0+i)))))) (aa ((m_ (List.range.loop L []) λi=>true)&&z (L<=L)) (aa (cO L (ae W)&&p_ L 1000000) (Q (s_ (ar (numOf L (ae W))) 1 (aG (numOf L (ae W)))))))))))))))):=U
theorem dZ{p q}(a:p=true)(b:q=true):(p&&q)=true:=by rw[a,b];rfl
theorem dG(W)(n):an n (ae W) (ae W):=Zj λ_ _=>zM _ _ _
theorem mL(f g):an 0 f g:=λi hi=>absurd hi (lZ i)
theorem jT{i W y}(h:y=W i):an (i+1) (λa=>bif f_ a i then ae W a else d_ 1 (e_ (0+(a-i)*1) [c_ a_ y])) (ae W):=λj b σ=>by
 show bt.le σ (bif f_ j i then ae W j else d_ 1 (e_ (0+(j-i)*1) [c_ a_ y])) (ae W j)
 cases c:f_ j i with
 |true=>exact zM _ _ _
 |false=>
  have:j=i:=by
   have :¬ j<i:=λe=>by rw[<-Nat.blt_eq]at e;grind
   omega
  subst this
  rw[Nat.sub_self,h]
  exact zM _ _ _
theorem jl{W y}(h:y=W 0):an 1 (λi=>bif f_ i 0 then ae W (0+i)else d_ 1 (e_ (0+(i-0)*1) [c_ a_ y])) (ae W):=λj a σ=>by
 have:j=0:=O
 subst this
 rw[h]
 exact zM _ _ _
theorem AT{e:Bool}{k m N L a B W D C}(H:lu N L D W C)(v:∀i,fb e (bx k (ae a) (M i)) (bx m (ae B) (M i))=D i):eu PP II false (aD II 160 3007) 15 (l7 (bif e then 161 else 163) (qc k a) (qc m B) N W C (false,0,0)) (iq N W L):=
 eu.of (ι:=Bool×Nat×Int) Hs [rz] (bm PP II []) 1000 15 (λi=>(i.1=false->i=(false,0,0))/\(i.1=true->1<=i.2.1/\i.2.2=M i.2.1)/\i.2.1<=L) (l7 (bif e then 161 else 163) (qc k a) (qc m B) N W C) (λ_=>iq N W L) (λi=>L-i.2.1) (λi=>(true,i.2.1+1,i.2.2+1)) (false,0,0) A
  ⟨λ_=>rfl,(λh=>zE),t_ _⟩ λi hi=>by
  obtain⟨y,i,j⟩:=i
  obtain⟨E,p,g⟩:=hi
  change i<=L at g
  have hn:=H.n
  have hl:=H.l
  cases y with
  |false=>
   cases E rfl
   have r:fb e (bx k (ae a) 0) (bx m (ae B) 0)=D 0:=v 0
   refine(BV e k m N L a B W C _ A).mpr ?_
   rw[r]
   have o:0<L->((true=false->(true,0+1,(0:Int)+1)=(false,0,0))/\(true=true->1<=0+1/\(0:Int)+1=M (0+1))/\0+1<=L)/\L-(0+1)<L-0/\(iq N W L).pick=(iq N W L).pick:=λhi=>Y
   refine Zh (λh=>?_) (λh=>Zh (λp=>?_) (λp=>?_))
   rotate_left 2
   ·have:L=0:=(H.stop 0 g ZD (by simpa using p)).symm
    subst this
    exact Zh (λ_=>⟨mL _ _,YG A trivial⟩) (λe=>zG)
   all_goals
    have hi:0<L:=by first|exact H.TI 0 g (by simpa using p)|exact H.TH 0 Y
    have F:=H.db 0 hi
    have s:=H.b 0 hi
    have f:=mJ s.1 (H.w 0 hi) (H.c 0 hi)
    have q:=o hi
    refine Ze zA (Ze zA (Ze zA ?_))
    refine Ze (aq O O) (Ze (aq O O) (Zh (λhx=>Ze (aq O O) (Zh (λ_=>?_) λ_=>?_)) (λhx=>Zh (λd=>Ze (aq Y Y) (Zh (λ_=>?_) λ_=>?_)) (λd=>Zh (λ_=>?_) λ_=>?_))))
    all_goals simp only[bn,iK]at hx
    all_goals(try simp only[bn,iK]at d)
    all_goals refine Ze (by rfl) ⟨?_,?_⟩
    all_goals first|exact jl (f.1 hx).1|exact jl (f.2.1 d).2|exact jl (f.2.2 hx d).1|(refine YG A ⟨dG _ _,YG A ⟨dG _ _,?_⟩⟩);first|exact Zf (f.1 hx).2 (Zf A q)|exact Zf (f.2.1 d).1 (Zf A q)|exact Zf (f.2.2 hx d).2 (Zf A q)
  |true=>
   obtain⟨t,x⟩:=p rfl
   change 1<=i at t
   change j=M i at x
   subst x
   refine(BX e k m N L i (M i) a B W C _ A).mpr ?_
   rw[v i]
   have o:i<L->((true=false->(true,i+1,M i+1)=(false,0,0))/\(true=true->1<=i+1/\M i+1=M (i+1))/\i+1<=L)/\L-(i+1)<L-i/\(iq N W L).pick=(iq N W L).pick:=λhi=>Y
   have u:aN a_ (M i+1)=true:=aq Y Y
   have G:(0:Int)<=M i:=w_ i
   refine Zh (λh=>?_) (λh=>Zh (λp=>?_) (λp=>?_))
   rotate_left 2
   ·have:i=L:=H.stop i g ZD (by simpa using p)
    subst this
    refine Zh (λI=>?_) λ_=>YG A ⟨dG _ _,YG A trivial⟩
    simp_all
   all_goals
    have hi:i<L:=by first|exact H.TI i g (by simpa using p)|exact H.TH i Y
    have F:=H.db i hi
    have s:=H.b i hi
    have f:=mJ s.1 (H.w i hi) (H.c i hi)
    have q:=o hi
    have cap:(z (i<=i)&&true&&true&&z ((i+1)*8<=140737488355328)&&true)=true:=by simp;omega
    refine Ze zA (Ze zA (Ze zA ?_))
    refine Ze (aq O O) (Ze (aq O O) (Zh (λhx=>Ze (aq O O) (Ze cap (Ze u ?_))) (λhx=>Zh (λd=>Ze (aq Y Y) (Ze cap (Ze u ?_))) (λd=>Ze cap (Ze u ?_)))))
    all_goals simp only[bn,iK]at hx
    all_goals(try simp only[bn,iK]at d)
    all_goals refine YG A ⟨?_,?_⟩
    all_goals first|exact jT (f.1 hx).1|exact jT (f.2.1 d).2|exact jT (f.2.2 hx d).1|(refine YG A ⟨dG _ _,YG A ⟨dG _ _,?_⟩⟩);refine YG A ?_;first|exact Zf (f.1 hx).2 (Zf A (Zf A q))|exact Zf (f.2.1 d).1 (Zf A (Zf A q))|exact Zf (f.2.2 hx d).2 (Zf A (Zf A q))
theorem PZ{k N L b a W D C}(H:lu N L D W C)(u:∀i,bx k (ae a) (M i)*b=D i):eu PP II false (aD II 160 3007) 15 (l7 213 (qc k a) (Vi b) N W C (false,0,0)) (iq N W L):=
 eu.of (ι:=Bool×Nat×Int) Hs [rz] (bm PP II []) 1000 15 (λi=>(i.1=false->i=(false,0,0))/\(i.1=true->1<=i.2.1/\i.2.2=M i.2.1)/\i.2.1<=L) (l7 213 (qc k a) (Vi b) N W C) (λ_=>iq N W L) (λi=>L-i.2.1) (λi=>(true,i.2.1+1,i.2.2+1)) (false,0,0) A
  ⟨λ_=>rfl,(λh=>zE),t_ _⟩ λi hi=>by
  obtain⟨x,i,j⟩:=i
  obtain⟨y,o,g⟩:=hi
  change i<=L at g
  have hn:=H.n
  have hl:=H.l
  cases x with
  |false=>
   cases y rfl
   have q:bx k (ae a) 0*b=D 0:=u 0
   refine(LA k N L b a W C _ A).mpr ?_
   rw[q]
   have m:0<L->((true=false->(true,0+1,(0:Int)+1)=(false,0,0))/\(true=true->1<=0+1/\(0:Int)+1=M (0+1))/\0+1<=L)/\L-(0+1)<L-0/\(iq N W L).pick=(iq N W L).pick:=λhi=>Y
   refine Zh (λh=>?_) (λh=>Zh (λo=>?_) (λo=>?_))
   rotate_left 2
   ·have:L=0:=(H.stop 0 g ZD (by simpa using o)).symm
    subst this
    exact Zh (λ_=>⟨mL _ _,YG A trivial⟩) (λe=>zG)
   all_goals
    have hi:0<L:=by first|exact H.TI 0 g (by simpa using o)|exact H.TH 0 Y
    have B:=H.db 0 hi
    have r:=H.b 0 hi
    have f:=mJ r.1 (H.w 0 hi) (H.c 0 hi)
    have p:=m hi
    refine Ze zA (Ze zA ?_)
    refine Ze (aq O O) (Ze (aq O O) (Zh (λhx=>Ze (aq O O) (Zh (λ_=>?_) λ_=>?_)) (λhx=>Zh (λd=>Ze (aq Y Y) (Zh (λ_=>?_) λ_=>?_)) (λd=>Zh (λ_=>?_) λ_=>?_))))
    all_goals simp only[bn,iK]at hx
    all_goals(try simp only[bn,iK]at d)
    all_goals refine Ze (by rfl) ⟨?_,?_⟩
    all_goals first|exact jl (f.1 hx).1|exact jl (f.2.1 d).2|exact jl (f.2.2 hx d).1|(refine Zf A (YG A ⟨dG _ _,?_⟩));first|exact Zf (f.1 hx).2 (Zf A p)|exact Zf (f.2.1 d).1 (Zf A p)|exact Zf (f.2.2 hx d).2 (Zf A p)
  |true=>
   obtain⟨s,v⟩:=o rfl
   change 1<=i at s
   change j=M i at v
   subst v
   refine(LB k N L i b (M i) a W C _ A).mpr ?_
   rw[u i]
   have m:i<L->((true=false->(true,i+1,M i+1)=(false,0,0))/\(true=true->1<=i+1/\M i+1=M (i+1))/\i+1<=L)/\L-(i+1)<L-i/\(iq N W L).pick=(iq N W L).pick:=λhi=>Y
   have t:aN a_ (M i+1)=true:=aq Y Y
   have E:(0:Int)<=M i:=w_ i
   refine Zh (λh=>?_) (λh=>Zh (λo=>?_) (λo=>?_))
   rotate_left 2
   ·have:i=L:=H.stop i g ZD (by simpa using o)
    subst this
    refine Zh (λF=>?_) λ_=>YG A ⟨dG _ _,YG A trivial⟩
    simp_all
   all_goals
    have hi:i<L:=by first|exact H.TI i g (by simpa using o)|exact H.TH i Y
    have B:=H.db i hi
    have r:=H.b i hi
    have f:=mJ r.1 (H.w i hi) (H.c i hi)
    have p:=m hi
    have cap:(z (i<=i)&&true&&true&&z ((i+1)*8<=140737488355328)&&true)=true:=by simp;omega
    refine Ze zA (Ze zA ?_)
    refine Ze (aq O O) (Ze (aq O O) (Zh (λhx=>Ze (aq O O) (Ze cap (Ze t ?_))) (λhx=>Zh (λd=>Ze (aq Y Y) (Ze cap (Ze t ?_))) (λd=>Ze cap (Ze t ?_)))))
    all_goals simp only[bn,iK]at hx
    all_goals(try simp only[bn,iK]at d)
    all_goals refine YG A ⟨?_,?_⟩
    all_goals first|exact jT (f.1 hx).1|exact jT (f.2.1 d).2|exact jT (f.2.2 hx d).1|(refine Zf A (YG A ⟨dG _ _,?_⟩));refine YG A ?_;first|exact Zf (f.1 hx).2 (Zf A (Zf A p))|exact Zf (f.2.1 d).1 (Zf A (Zf A p))|exact Zf (f.2.2 hx d).2 (Zf A (Zf A p))
theorem bZ(v):numOf (ar v) (aG v)=v:=kY (dw _)
theorem wi{N V:Nat}(hV:V<10000^(N+1))(a:N<=100000){Q:AV->Prop}(hQ:Q (.ab (ar V) 1 (aG V))):
  (ah (r_ (fi N V) 0) (aa ((cO 0 λi=>ae (aO V) (0+i))&&true) (Q (s_ (ar (numOf 0 λi=>ae (aO V) (0+i))) 1 (aG (numOf 0 λi=>ae (aO V) (0+i))))))
   (aa ((m_ (List.range.loop (fi N V) []) λ_=>true)&&z (fi N V<=fi N V)) (aa (cO (fi N V) (ae (aO V))&&p_ (fi N V) 1000000) (Q (s_ (ar (numOf (fi N V) (ae (aO V)))) 1 (aG (numOf (fi N V) (ae (aO V))))))))):=by
 have hl:=Ly hV
 have b:fi N V<=100001:=by unfold fi;split<;>omega
 refine Zh (λh=>Ze A ?_) (λ_=>Ze zA (Ze (dZ (cM _ V) (kV O)) ?_))
 ·have c:fi N V=0:=by simp_all
  have:V=0:=by have:=cN.1 (O:ar V<=0);simpa using this
  subst this
  exact hQ
 ·have:numOf (fi N V) (ae (aO V))=V:=kY hl
  rw[this];exact hQ
theorem P0{a b k m}(ha:ar a<=k)(c:ar b<=m)(i):bx k (ae (aO a)) (M i)+bx m (ae (aO b)) (M i)=M (ob a i)+M (ob b i):=by
 have d:bx k (ae (aO a)) (M i)=M (ob a i):=oz ha
 have e:bx m (ae (aO b)) (M i)=M (ob b i):=oz c
 rw[d,e]
theorem P1{a b k m}(ha:ar a<=k)(c:ar b<=m)(d:k<=90000)(f:m<=90000):af PP II 108 [.ab k 1 (aG a),.ab m 1 (aG b)] (b_ 12) (.ret (.ab (ar (a+b)) 1 (aG (a+b))) (b_ 12)):=by
 have e:(if M m>M k then M m else M k)=M (max k m):=by
  by_cases h:M m>M k
  ·grind
  ·grind
 have g:max k m<=90000:=O
 generalize j:max k m=N at*
 refine bY (T:=[(3007,15,l7 161 (qc k (aO a)) (qc m (aO b)) N (aO (a+b)) (fu λi=>M (ob a i)+M (ob b i)) (false,0,0),iq N (aO (a+b)) (fi N (a+b)))]) (λ_=>⟨rfl,rfl,λ_ _=>uq _ _ _⟩) ((PY k m N (fi N (a+b)) (aO a) (aO b) (aO (a+b)) _ _ A).mpr ?_)
 rw[e]
 have f1:M N+1=((N+1:Nat):Int):=rfl
 rw[f1]
 refine Ze (aq O O) (Ze ZG ⟨AT (e:=true) (Ip O O O) λi=>P0 ha c i,mL _ _,YG A ⟨dG _ _,YG A ⟨dG _ _,YG O (Zf (carry_zero _).symm (Zf A (wi (V:=a+b) (Q:=λx=>x= .ab (ar (a+b)) 1 (aG (a+b))) (TJ O O) O A)))⟩⟩⟩)
noncomputable def YA:aC PP II:=aC.pure 108
 (λX args a=>match args with
  |[.ab k 1 f,.ab m 1 g]=>X.bq (cO k f&&cO m g&&p_ k 90000&&p_ m 90000) (a (.ab (ar (numOf k f+numOf m g)) 1 (aG (numOf k f+numOf m g))))
  |_=>X.fail)
 λX sem hX args a h=>by
  split at h
  ·obtain⟨b,c⟩:=hX.bq _ _ h
   simp only[bf]at b
   obtain⟨⟨⟨a1,a2⟩,d⟩,e⟩:=b
   exact⟨_,c,λ_=>rfl,λ_=>rfl,(P1 (eh _ _ (j7 a1).1) (eh _ _ (j7 a2).1) ZD ZD).dq ⟨gT a1,gT a2,trivial⟩⟩
  ·exact zR
theorem LC{a b k m}(ha:ar a<=k)(c:ar b<=m)(i):bx k (ae (aO a)) (M i)-bx m (ae (aO b)) (M i)=M (ob a i)-M (ob b i):=by
 have d:bx k (ae (aO a)) (M i)=M (ob a i):=oz ha
 have e:bx m (ae (aO b)) (M i)=M (ob b i):=oz c
 rw[d,e]
theorem LD{a b k m}(c:b<=a)(ha:ar a<=k)(d:ar b<=m)(f:k<=90000):af PP II 110 [.ab k 1 (aG a),.ab m 1 (aG b)] (b_ 12) (.ret (.ab (ar (a-b)) 1 (aG (a-b))) (b_ 12)):=by
 refine bY (T:=[(3007,15,l7 163 (qc k (aO a)) (qc m (aO b)) k (aO (a-b)) (fu λi=>M (ob a i)-M (ob b i)) (false,0,0),iq k (aO (a-b)) (fi k (a-b)))]) (λ_=>⟨rfl,rfl,λ_ _=>uq _ _ _⟩) ((Lz k m k (fi k (a-b)) (aO a) (aO b) (aO (a-b)) _ _).mpr ?_)
 have f1:M k+1=((k+1:Nat):Int):=rfl
 rw[f1]
 refine Ze (aq O O) (Ze ZG ⟨AT (e:=false) (Eo c ha O) λi=>LC ha d i,mL _ _,YG A ⟨dG _ _,YG A ⟨dG _ _,YG O (Zf (carry_zero _).symm (Zf A (wi (V:=a-b) (Q:=λx=>x= .ab (ar (a-b)) 1 (aG (a-b))) (PW ha) O A)))⟩⟩⟩)
noncomputable def Aj:aC PP II:=aC.pure 110
 (λX args a=>match args with
  |[.ab k 1 f,.ab m 1 g]=>X.bq (cO k f&&cO m g&&p_ (numOf m g) (numOf k f)&&p_ k 90000) (a (.ab (ar (numOf k f-numOf m g)) 1 (aG (numOf k f-numOf m g))))
  |_=>X.fail)
 λX sem hX args a h=>by
  split at h
  ·obtain⟨b,c⟩:=hX.bq _ _ h
   simp only[bf]at b
   obtain⟨⟨⟨a1,a2⟩,d⟩,e⟩:=b
   exact⟨_,c,λ_=>rfl,λ_=>rfl,(LD ZD (eh _ _ (j7 a1).1) (eh _ _ (j7 a2).1) ZD).dq ⟨gT a1,gT a2,trivial⟩⟩
  ·exact zR
theorem Wn{a n k:Nat}(hn:n<10000)(ha:ar a<=k)(b:k<=90000):af PP II 157 [.ab k 1 (aG a),.int a_ n] (b_ 12) (.ret (.ab (ar (a*n)) 1 (aG (a*n))) (b_ 12)):=by
 refine bY (T:=[(3007,15,l7 213 (qc k (aO a)) (Vi n) k (aO (a*n)) (fu λi=>M (ob a i)*(n:Int)) (false,0,0),iq k (aO (a*n)) (fi k (a*n)))]) (λ_=>⟨rfl,rfl,λ_ _=>uq _ _ _⟩) ((Wm k k (fi k (a*n)) n (aO a) (aO (a*n)) _ _).mpr ?_)
 have f1:M k+1=((k+1:Nat):Int):=rfl
 rw[f1]
 refine Ze (aq O O) (Ze ZG ⟨PZ (PV hn ha O) λi=>by rw[show bx k (ae (aO a)) (M i)=M (ob a i)from oz ha],mL _ _,Zf A (YG A ⟨dG _ _,YG O (Zf (carry_zero _).symm (Zf A (wi (V:=a*n) (Q:=λx=>x= .ab (ar (a*n)) 1 (aG (a*n))) (Ai hn ha) O A)))⟩)⟩)
noncomputable def SD:aC PP II:=aC.pure 157
 (λX args a=>match args with
  |[.ab k 1 f,.int a_ n]=>X.bq (cO k f&&z (0<=n)&&z (n<10000)&&p_ k 90000) (a (.ab (ar (numOf k f*n.toNat)) 1 (aG (numOf k f*n.toNat))))
  |_=>X.fail)
 λX sem hX args a h=>by
  split at h
  ·rename_i n
   obtain⟨b,c⟩:=hX.bq _ _ h
   simp only[bf,bn]at b
   obtain⟨⟨⟨a1,a2⟩,d⟩,e⟩:=b
   refine⟨_,c,λ_=>rfl,λ_=>rfl,?_⟩
   exact(Wn (n:=n.toNat) O (eh _ _ (j7 a1).1) ZD).dq ⟨gT a1,⟨rfl,(Int.toNat_of_nonneg a2).symm⟩,trivial⟩
  ·exact zR
end
end Go.Sx
