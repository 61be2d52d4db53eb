/- The proof of a statement of the seat, part 41. -/
import Derived.Test.YtoijalagmmgkbaaGreatDoorX40
import Derived.Test.YtoijalagmmgkbaaGreatDoorX25
import Derived.Test.YtoijalagmmgkbaaGreatDoorX23
import Derived.Test.YtoijalagmmgkbaaGreatDoorX38
import Derived.Test.YtoijalagmmgkbaaGreatDoorX39
import Derived.Test.YtoijalagmmgkbaaGreatDoorX33
set_option linter.all false
set_option linter.defProp false
set_option maxRecDepth 1000000
namespace Go.Sx
open Go
open Int renaming ofNat->M,toNat->e_
open Decidable renaming decide->z
open Go.IntKind renaming i64->a_
open AV renaming int->b_,str->d_,ab->k_,le->r_,bD->t_
open List renaming beq->c_,range->f_,all->j_,take->p_,drop->q_
open AH renaming blank->g_
open Nat renaming zero_add->h_,ble->i_,beq->l_,zero_le->m_,blt->n_
open Bool renaming and_true->o_
noncomputable section
def lH(a b:Nat->Int)(j:Int)(i:Nat):Int:=if(i:Int)<j then a i+b i else a i
def Dw(n:Nat)(a b:Nat->Int)(hn:n<=1000000)(hA:∀i,i<n->aN a_ (a i+b i)=true):aE PP II false (aD II 174 4001) 13 (Pd n b (lH a b) 0) (Pe n (λi=>a i+b i)):=by
 have key:=aE.of (ι:=Nat) iw [] (bm PP II []) 1000 (c:=aD II 174 4001) (ir:=false) 13 (λj=>j<=n) (λj=>Pd n b (lH a b) (j:Int)) (λ_=>Pe n (λi=>a i+b i)) (λj=>n-j) (λj=>j+1) 0 A (m_ _) λj d=>?_
 ·exact key
 have d:j<=n:=d
 have go:∀(i:Int)(Q:Prop),i=(j:Int)->(j<n->Q)->kr [] [] 174 4001 13 (Pd n b (lH a b)) (λ_=>Pe n (λi=>a i+b i)) (λj=>j+1) Q i:=λi Q hi hQ=>by
  rw[Oy]
  have o:M n=(n:Int):=rfl
  have g:e_ i=j:=O
  rw[g,h_]
  refine Zg (λh=>?_) λh=>?_
  ·have ha:(z (0<=i)&&z (i<M n))=true:=by simp only[bf,bn];omega
   have f:z (j<n)=true:=bW O
   have l:lH a b i j=a j:=by unfold lH;rw[if_neg O]
   rw[l]
   refine cC _ _ ha (cC _ _ f (cC _ _ ha (cC _ _ (hA j O) (cC _ _ ha (cC _ _ f (cC _ _ (aq O O) ?_))))))
   refine YG A ⟨λk m σ=>?_,YG A (YG A (Zf A (YG A ⟨bL _ _,Zf A (YG A ⟨bL _ _,hQ O⟩)⟩)))⟩
   show bt.le σ [.int a_ (bif z (k=j)then a j+b j else lH a b i k)] [.int a_ (lH a b (i+1) k)]
   have:(bif z (k=j)then a j+b j else lH a b i k)=lH a b (i+1) k:=by
    unfold lH
    by_cases e:k=j
    ·rw[bW e,cond_true,if_pos O,e]
    ·rw[nZ e,cond_false]
     by_cases c:(k:Int)<i
     ·rw[if_pos c,if_pos O]
     ·rw[if_neg c,if_neg O]
   rw[this]
   exact⟨⟨rfl,rfl⟩,trivial⟩
  ·refine YG A ⟨λk m σ=>?_,YG A (YG A trivial)⟩
   show bt.le σ [.int a_ (lH a b i k)] [.int a_ (a k+b k)]
   have:lH a b i k=a k+b k:=by unfold lH;rw[if_pos O]
   rw[this]
   exact⟨⟨rfl,rfl⟩,trivial⟩
 exact go (j:Int) _ A λh=>⟨h,O,rfl⟩
def UQ{n:Nat}{a b:Nat->Int}(hn:n<=1000000)(hA:∀i,i<n->aN a_ (a i+b i)=true):
  af PP II 174 [.ab n 1 (ae a),.ab n 1 (ae b),.fn 61 [] []] (g_ 12) (.ret (.ab n 1 (ae λi=>a i+b i)) (g_ 12)):=by
 refine bY (ks:=[]) (T:=[(4001,13,Pd n b (lH a b) 0,Pe n (λi=>a i+b i))]) (λσ=>⟨rfl,rfl,λi _=>ep _ _ _⟩) ?_
 rw[UP]
 have d:M n=(n:Int):=rfl
 have m:(if M n>M n then M n else M n)=M n:=by split<;>rfl
 have t:e_ (M n)=n:=O
 rw[m,t,if_pos (dw n),h_]
 refine cC _ _ ZF (cC _ _ (bW (dw n)) ⟨Dw n a b hn hA,?_⟩)
 refine YG A ⟨λk c σ=>?_,YG A (YG A (Zf A (YG A ⟨bL _ _,YG A ⟨bL _ _,cC _ _ ?_ ?_⟩⟩)))⟩
 ·show bt.le σ (bif i_ 0 k&&n_ k n then ae a (k-0)else [.int a_ 0]) (ae (lH a b 0) k)
  rw[eV c,o_,kV (m_ k),cond_true]
  show bt.le σ [.int a_ (a k)] [.int a_ (lH a b 0 k)]
  have:lH a b 0 k=a k:=by unfold lH;rw[if_neg O]
  rw[this]
  exact⟨⟨rfl,rfl⟩,trivial⟩
 ·rw[bW (show n<=n from dw n),o_]
  exact List.all_eq_true.2 λ_ _=>rfl
 ·show k_ n 1 (λi=>ae (λi=>a i+b i) (0+i))=_
  congr 1
  funext i
  rw[h_]
def Rs{n:Nat}{a:Nat->Int}(hn:n<=1000000)(hA:∀i,i<n->aN a_ (0+a i)=true):
  af PP II 174 [.aw,.ab n 1 (ae a),.fn 61 [] []] (g_ 12) (.ret (.ab n 1 (ae λi=>0+a i)) (g_ 12)):=by
 refine bY (ks:=[]) (T:=[(4001,13,Pd n a (lH (λ_=>0) a) 0,Pe n (λi=>0+a i))]) (λσ=>⟨rfl,rfl,λi _=>ep _ _ _⟩) ?_
 rw[Rq]
 have b:M n=(n:Int):=rfl
 have m:(if M n>0 then M n else 0)=M n:=by split<;>omega
 have t:e_ (M n)=n:=O
 rw[m,t,if_pos (m_ n),h_]
 refine cC _ _ ZF (cC _ _ (bW (m_ n)) ⟨Dw n (λ_=>0) a hn hA,?_⟩)
 refine YG A ⟨λk c σ=>?_,YG A (YG A (Zf A (YG A ⟨bL _ _,YG A ⟨bL _ _,cC _ _ ?_ ?_⟩⟩)))⟩
 ·show bt.le σ (bif i_ 0 k&&n_ k 0 then []else [.int a_ 0]) (ae (lH (λ_=>0) a 0) k)
  rw[js (lZ k),Bool.and_false,cond_false]
  show bt.le σ [.int a_ 0] [.int a_ (lH (λ_=>0) a 0 k)]
  have:lH (λ_=>0) a 0 k=0:=by unfold lH;rw[if_neg O]
  rw[this]
  exact⟨⟨rfl,rfl⟩,trivial⟩
 ·rw[bW (O:0+n<=n),o_]
  exact List.all_eq_true.2 λ_ _=>rfl
 ·show k_ n 1 (λi=>ae (λi=>0+a i) (0+i))=_
  congr 1
  funext i
  rw[h_]
def Yh:aC PP II:=aC.pure 174
 (λX args b=>match args with
  |[.ab n 1 f,.ab m 1 g,.fn 61 [] []]=>X.ak (bA n f&&bA m g&&l_ m n&&i_ n 1000000&&(f_ n).all λi=>aN a_ (aM f i+aM g i)) (b (.ab n 1 (ae λi=>aM f i+aM g i)))
  |[.aw,.ab m 1 g,.fn 61 [] []]=>X.ak (bA m g&&i_ m 1000000&&(f_ m).all λi=>aN a_ (0+aM g i)) (b (.ab m 1 (ae λi=>0+aM g i)))
  |_=>X.fail)
 λX sem hX args b h=>by
  split at h
  ·obtain⟨a,c⟩:=hX.ak _ _ h
   simp only[bf]at a
   obtain⟨⟨⟨⟨a1,a2⟩,d⟩,a4⟩,e⟩:=a
   cases dE d
   exact⟨_,c,λ_=>rfl,λ_=>rfl,af.nT (UQ (jX a4) λi hi=>List.all_eq_true.1 e i (List.mem_range.2 hi)) (cy a1) (cy a2) ⟨rfl,trivial,trivial⟩⟩
  ·obtain⟨a,c⟩:=hX.ak _ _ h
   simp only[bf]at a
   obtain⟨⟨a1,a2⟩,d⟩:=a
   exact⟨_,c,λ_=>rfl,λ_=>rfl,af.nT (Rs (jX a2) λi hi=>List.all_eq_true.1 d i (List.mem_range.2 hi)) trivial (cy a1) ⟨rfl,trivial,trivial⟩⟩
  ·exact zR
def Vr(f:Nat->List AV):Bool:=fh 3 f&&z (bP f 0=ur 0)&&z (bP f 1=ur 1)&&z (bP f 2=ur 2)
def Bk{f:Nat->List AV}(h:Vr f=true):r_ (λl=>l) (.ab 3 10 f) (cm 3 ur):=by
 unfold Vr at h
 simp only[bf,bn]at h
 obtain⟨⟨⟨a,b⟩,c⟩,d⟩:=h
 have h:=fq a
 obtain⟨e,g,k⟩:=h
 refine⟨rfl,rfl,λi hi=>?_⟩
 have k:=k i hi
 match i,hi with
 |0,_=>show bt.le _ (f 0) (aF (ur 0));rw[<-b];exact k
 |1,_=>show bt.le _ (f 1) (aF (ur 1));rw[<-c];exact k
 |2,_=>show bt.le _ (f 2) (aF (ur 2));rw[<-d];exact k
 |i+3,h=>exact absurd h O
def W3(w:AV)(q:Query):Bool:=match w with
 | .aw=>l_ q.nw 0
 | .ab 1 3 g=>l_ q.nw 1&&(match g 0 with|[.int a_ x,.int a_ y,.int a_ a]=>z (x=q.C 0 0)&&z (y=q.C 0 1)&&z (a=q.C 0 2)|_=>false)
 |_=>false
def UR{w:AV}{q:Query}(h:W3 w q=true):r_ (λl=>l) w (.ab q.nw 3 (au q.C))/\∀σ,t_ σ w=w:=by
 unfold W3 at h
 split at h
 ·exact⟨dE h,λ_=>rfl⟩
 ·rename_i g
  rw[bf]at h
  obtain⟨c,b⟩:=h
  have c:=dE c
  refine⟨⟨c.symm,rfl,λi hi=>?_⟩,λ_=>rfl⟩
  have:i=0:=O
  subst this
  split at b
  ·rename_i x y a e
   simp only[bf,bn]at b
   rw[e,b.1.1,b.1.2,b.2]
   exact⟨⟨rfl,rfl⟩,⟨rfl,rfl⟩,⟨rfl,rfl⟩,trivial⟩
  ·cases b
 ·cases h
def Rt:af PP II 13 [.agg [.aw,.aw,.int a_ 0,.int a_ 0,.str [],.str [],.int a_ 0],cm 3 ur] HR (.ret (.bK [.aw,.int a_ 200]) HR):=by
 refine qh (ks:=[]) (T:=[]) ?_
 have:∀Q:AV->Prop,kq [] [] 13 [.agg [.aw,.aw,.int a_ 0,.int a_ 0,.str [],.str [],.int a_ 0],cm 3 ur] Q=Q (.bK [.aw,.int a_ 200]):=λQ=>U
 rw[this]
 exactλσ=>⟨trivial,⟨rfl,rfl⟩,trivial⟩
def S5:aC PP II:=aC.s9 13
 (λX args d=>match args with
  |[.agg [w,.aw,.int a_ a,.int a_ fl,.str nu,.str de,.int a_ t],.ab 3 10 f]=>match z (a=0)with
   |true=>X.ak (W3 w (zm 0 0 0 0 [] [])&&z (fl=0)&&c_ nu []&&c_ de []&&z (t=0)&&Vr f) (d (.bK [.aw,.int a_ 200]))
   |false=>X.ak (W3 w (oX a fl).1&&z (a=(oX a fl).1.a)&&z (fl=(oX a fl).1.fl)&&c_ nu (oX a fl).1.nu&&c_ de (oX a fl).1.de&&z (t=(oX a fl).1.top)&&Vr f) (d (Dv (oX a fl).2.1 (oX a fl).2.2))
  |_=>X.fail)
 λX sem hX args d h=>by
  split at h
  ·rename_i w a fl nu de t f
   split at h
   ·rename_i ha
    obtain⟨c,e⟩:=hX.ak _ _ h
    simp only[bf,bn]at c ha
    obtain⟨⟨⟨⟨⟨b,g⟩,i⟩,j⟩,k⟩,l⟩:=c
    subst ha g k
    cases eq_of_beq (α:=List UInt8) i
    cases eq_of_beq (α:=List UInt8) j
    have m:w= .aw:=by
     unfold W3 at b
     split at b
     ·rfl
     ·rw[bf]at b;cases b.1
     ·cases b
    subst m
    exact⟨_,e,λ_=>rfl,λ_=>rfl,af.dA Rt ⟨trivial,trivial,⟨rfl,rfl⟩,⟨rfl,rfl⟩,rfl,rfl,⟨rfl,rfl⟩,trivial⟩ (Bk l)⟩
   ·obtain⟨c,e⟩:=hX.ak _ _ h
    simp only[bf,bn]at c
    obtain⟨⟨⟨⟨⟨⟨b,g⟩,i⟩,j⟩,k⟩,l⟩,n⟩:=c
    obtain⟨o,p⟩:=UR b
    refine⟨_,e,λ_=>rfl,λσ=>?_,af.dA (UO a fl) ⟨o,(S3 a fl).2.2,⟨rfl,g⟩,⟨rfl,i⟩,eq_of_beq (α:=List UInt8) j,eq_of_beq (α:=List UInt8) k,⟨rfl,l⟩,trivial⟩ (Bk n)⟩
    show [AV.agg [t_ σ w,.aw,.int a_ a,.int a_ fl,.str nu,.str de,.int a_ t],k_ 3 10 f]=_
    rw[p]
  ·exact zR
def Oz(n d:Int):Bool:=(z (d=1)&&[(0:Int),1,2,3,6,7,10,11,12,18,20,21,27,36,62].contains n)||(z (d=2)&&z (n=1))
def Ru(n d:Int):AV:=.agg [.str (bu n.toNat),.str (bu d.toNat)]
set_option maxHeartbeats 0 in
def US{n d:Int}(h:Oz n d=true):af PP II 34 [.int a_ n,.int a_ d] (g_ 12) (.ret (Ru n d) (g_ 12)):=by
 have go:∀{n d:Int},(∀Q:AV->Prop,kb [] [] 34 [.int a_ n,.int a_ d] Q=Q (Ru n d))->af PP II 34 [.int a_ n,.int a_ d] (g_ 12) (.ret (Ru n d) (g_ 12)):=λ{n d} e=>by
  refine bY (ks:=[]) (T:=[]) (λ_=>⟨rfl,rfl,trivial⟩) ?_
  rw[e]
 unfold Oz at h
 simp only[Bool.or_eq_true,bf,bn,List.contains_iff_mem,List.mem_cons,List.not_mem_nil,or_false]at h
 rcases h with⟨rfl,h⟩|⟨rfl,rfl⟩
 ·rcases h with rfl|rfl|rfl|rfl|rfl|rfl|rfl|rfl|rfl|rfl|rfl|rfl|rfl|rfl|rfl
  all_goals exact go λQ=>by as_aux_lemma=>kernel_rfl
 ·exact go λQ=>by as_aux_lemma=>kernel_rfl
def W4:aC PP II:=aC.pure 34
 (λX args a=>match args with
  |[.int a_ n,.int a_ d]=>X.ak (Oz n d) (a (Ru n d))
  |_=>X.fail)
 λX sem hX args a h=>by
  split at h
  ·obtain⟨b,c⟩:=hX.ak _ _ h
   exact⟨_,c,λ_=>rfl,λ_=>rfl,US b⟩
  ·exact zR
def Yj:List (aC PP II):=[Yh,YF,yM,j8,Aw,TY,Me,Cb,Cc,EA,WE,EI,SD,Aj,WC,bU]
def UU:List AV:=[.aw,.aw,.int a_ 1,.int a_ 0,.str [],.str [],.int a_ 0]
def W7(k:AV):Bool:=match k with| .aw=>true| .ab 0 1 _=>true|_=>false
def Rv(lo v:List UInt8)(a:AV):Bool:=match a with
 | .bK [.ab 1 9 f,.int a_ 0]=>match f 0 with
  |[k,.str s0,.str s1,.str s2,.str b,.str c,.str d,.str e,.str g]=>W7 k&&c_ s0 lo&&c_ s1 [49]&&c_ s2 lo&&c_ b [49]&&c_ c v&&c_ d [49]&&c_ e v&&c_ g [49]
  |_=>false
 |_=>false
def OA(lo v:List UInt8):AV:=.bK [.ab 1 9 (λ_=>[.ab 0 1 (λ_=>[]),.str lo,.str [49],.str lo,.str [49],.str v,.str [49],.str v,.str [49]]),.int a_ 0]
def Hw{lo v:List UInt8}{a:AV}(h:Rv lo v a=true)(σ:Nat->Nat):r_ σ a (OA lo v):=by
 unfold Rv at h
 split at h
 ·rename_i f
  split at h
  ·rename_i k s0 q r s t u w x e
   simp only[bf]at h
   obtain⟨⟨⟨⟨⟨⟨⟨⟨h,b⟩,c⟩,d⟩,g⟩,l⟩,m⟩,n⟩,o⟩:=h
   refine⟨⟨rfl,rfl,λi hi=>?_⟩,⟨rfl,rfl⟩,trivial⟩
   have:i=0:=O
   subst this
   rw[e]
   refine⟨?_,eq_of_beq (α:=List UInt8) b,eq_of_beq (α:=List UInt8) c,eq_of_beq (α:=List UInt8) d,eq_of_beq (α:=List UInt8) g,eq_of_beq (α:=List UInt8) l,eq_of_beq (α:=List UInt8) m,eq_of_beq (α:=List UInt8) n,eq_of_beq (α:=List UInt8) o,trivial⟩
   unfold W7 at h
   split at h
   ·exact(rfl:0=0)
   ·exact⟨rfl,rfl,λj p=>absurd p (lZ j)⟩
   ·cases h
  ·cases h
 ·cases h
def Bm{ks:List (aC PP II)}{f:FuncId}{args:List AV}{a:AV}(t:AV->Bool)(ht:∀x,t x=true->∀σ,r_ σ x a)
  (h:∀R:Bool->Bool->Prop,jE ks (mG PP II []) 1000 f args Hm (λx H=>qC RI.jY 100000 x H λd H2=>R (ye H2) (t d)) (λ_ _=>False)=R (true&&FY (Hm.get 0) (Hm.get 1) (Hm.get 2) (Hm.get 3) (Hm.get 6) (Hm.get 9) (Hm.get 10) (Hm.get 13)) true):af PP II f args Hm (.ret a Hm):=by
 have:=h λb c=>B b (c=true)
 obtain⟨o,e,g⟩:=fJ iw ks (bm PP II []) 1000 f args Hm (λx H=>qC RI.jY 100000 x H λd H2=>B (ye H2) (t d=true)) (λ_ _=>False) (by
  rw[this]
  exact Ze (Bl A A A A A A A A) A)
 cases o with
 |ret b H1=>
  obtain⟨x,H2,k1,k2⟩:=lm RI.dJ _ _ _ _ e
  obtain⟨i,k1⟩:=Zk k1
  exact(g.vW k2).le (ky.of [] (tA i) (ht _ k1 _))
 |qt a H1=>exact e.elim
def Bn(i:Nat):List AV:=aF (ur i)++[.str [49],.str [50]]
set_option maxHeartbeats 0 in
def F0:af PP II 23 [.agg UU,.ab 3 12 Bn] Hm (.ret (OA [54] [49,56]) Hm):=
 Bm (ks:=Yj) (Rv [54] [49,56]) (λ_ h=>Hw h) λR=>U
def W9(i:Nat):Int:=match i with|3=>1|4=>2|_=>0
def S6(i:Nat):Int:=match i with|4=>1|5=>2|_=>0
def OB(_:Nat):List AV:=[.int a_ 0,.int a_ 0,.int a_ 0,.int a_ 0,.int a_ 3,.int a_ 27,.int a_ 62,.int a_ 7,.ab 44 1 (ae W9),.ab 44 1 (ae S6)]
def Hx(n:Nat)(f:Nat->List AV)(W:Nat->Int):Bool:=bA n f&&(f_ n).all λi=>z (aM f i=W i)
def Dx{n:Nat}{f:Nat->List AV}{W:Nat->Int}(h:Hx n f W=true)(σ:Nat->Nat):r_ σ (.ab n 1 f) (.ab n 1 (ae W)):=by
 unfold Hx at h
 rw[bf]at h
 refine⟨rfl,rfl,λi hi=>?_⟩
 have e:=pT (List.all_eq_true.1 h.2 i (List.mem_range.2 hi))
 rw[kZ h.1 i hi]
 show bt.le σ [.int a_ (aM f i)] [.int a_ (W i)]
 rw[e]
 exact⟨⟨rfl,rfl⟩,trivial⟩
def Bo(f:Nat->List AV):Bool:=match f 0 with
 |[.int a_ a,.int a_ b,.int a_ c,.int a_ d,.int a_ n,.int a_ l,.int a_ h,.int a_ y,.ab 44 1 r,.ab 44 1 s]=>z (a=0)&&z (b=0)&&z (c=0)&&z (d=0)&&z (n=3)&&z (l=27)&&z (h=62)&&z (y=7)&&Hx 44 r W9&&Hx 44 s S6
 |_=>false
def zn{f:Nat->List AV}(h:Bo f=true)(σ:Nat->Nat):r_ σ (.ab 1 10 f) (.ab 1 10 OB):=by
 unfold Bo at h
 split at h
 ·rename_i a b c d n l g y r s e
  simp only[bf,bn]at h
  obtain⟨⟨⟨⟨⟨⟨⟨⟨⟨rfl,rfl⟩,rfl⟩,rfl⟩,rfl⟩,rfl⟩,rfl⟩,rfl⟩,j⟩,k⟩:=h
  refine⟨rfl,rfl,λi hi=>?_⟩
  have:i=0:=O
  subst this
  rw[e]
  exact⟨⟨rfl,rfl⟩,⟨rfl,rfl⟩,⟨rfl,rfl⟩,⟨rfl,rfl⟩,⟨rfl,rfl⟩,⟨rfl,rfl⟩,⟨rfl,rfl⟩,⟨rfl,rfl⟩,Dx j σ,Dx k σ,trivial⟩
 ·cases h
def UW(a:AV):Bool:=match a with
 | .bK [.agg [.ab 1 10 f],.int a_ 0]=>Bo f
 |_=>false
def UX:AV:=.bK [.agg [.ab 1 10 OB],.int a_ 0]
def Rw{a:AV}(h:UW a=true)(σ:Nat->Nat):r_ σ a UX:=by
 unfold UW at h
 split at h
 ·exact⟨⟨zn h σ,trivial⟩,⟨rfl,rfl⟩,trivial⟩
 ·cases h
set_option maxHeartbeats 0 in
def Rx:af PP II 27 [cm 3 ur] Hm (.ret UX Hm):=
 Bm (ks:=Yj) UW (λ_ h=>Rw h) λR=>U
set_option maxHeartbeats 0 in
def Dy:af PP II 28 [.agg UU,.agg [.ab 1 10 OB]] Hm (.ret (OA [51] [48]) Hm):=
 Bm (ks:=Yj) (Rv [51] [48]) (λ_ h=>Hw h) λR=>U
set_option maxHeartbeats 0 in
def Ox:af PP II 14 [.agg [.aw,.aw,.int a_ 2,.int a_ 8,.str [],.str [],.int a_ 0],cm 3 ur,.ab 3 1 (ae λi=>11+(i:Int))] Hm (.ret (OA [51,54] [48]) Hm):=
 Bm (ks:=Yj) (Rv [51,54] [48]) (λ_ h=>Hw h) λR=>U
def Hu:aC PP II:=aC.J0 14
 (λX args a=>match args with
  |[.agg [.aw,.aw,.int a_ 2,.int a_ 8,.str [],.str [],.int a_ 0],.ab 3 10 f,.ab 3 1 g]=>X.ak (Vr f&&bA 3 g&&z (aM g 0=11)&&z (aM g 1=12)&&z (aM g 2=13)) (a (OA [51,54] [48]))
  |_=>X.fail)
 λX sem hX args a h=>by
  split at h
  ·rename_i f g
   obtain⟨b,c⟩:=hX.ak _ _ h
   simp only[bf,bn]at b
   obtain⟨⟨⟨⟨d,e⟩,j⟩,l⟩,m⟩:=b
   refine⟨_,c,λ_=>rfl,λ_=>rfl,af.nT Ox ⟨trivial,trivial,⟨rfl,rfl⟩,⟨rfl,rfl⟩,rfl,rfl,⟨rfl,rfl⟩,trivial⟩ (Bk d) ?_⟩
   obtain⟨_,_,k⟩:=cy e
   refine⟨rfl,rfl,λi hi=>?_⟩
   have k:=k i hi
   match i,hi with
   |0,_=>show bt.le _ (g 0) [.int a_ 11];rw[<-j];exact k
   |1,_=>show bt.le _ (g 1) [.int a_ 12];rw[<-l];exact k
   |2,_=>show bt.le _ (g 2) [.int a_ 13];rw[<-m];exact k
   |i+3,h=>exact absurd h O
  ·exact zR
def Hy(cs:List AV):Bool:=match cs with
 |[.aw,.aw,.int a_ a,.int a_ f,.str nu,.str de,.int a_ t]=>z (a=1)&&z (f=0)&&c_ nu []&&c_ de []&&z (t=0)
 |_=>false
def Dz{cs:List AV}(h:Hy cs=true):cs=UU:=by
 unfold Hy at h
 split at h
 ·simp only[bf,bn]at h
  obtain⟨⟨⟨⟨rfl,rfl⟩,a⟩,b⟩,rfl⟩:=h
  cases eq_of_beq (α:=List UInt8) a
  cases eq_of_beq (α:=List UInt8) b
  rfl
 ·cases h
def xx(f:Nat->List AV)(i:Nat):Bool:=match f i with
 |[.int a_ a0,.int a_ a1,.int a_ a2,.int a_ a3,.int a_ a4,.int a_ a5,.int a_ a,.int a_ b,.int a_ c,.int a_ a9,.str n,.str d]=>z ((⟨a0,a1,a2,a3,a4,a5,a,b,c,a9⟩:ay)=ur i)&&c_ n [49]&&c_ d [50]
 |_=>false
def tB{f:Nat->List AV}{i:Nat}(h:xx f i=true):bt.le (λl=>l) (f i) (Bn i):=by
 unfold xx at h
 split at h
 ·rename_i a0 a1 a2 g a4 j k m o p n d e
  simp only[bf,bn]at h
  obtain⟨⟨a,b⟩,c⟩:=h
  cases eq_of_beq (α:=List UInt8) b
  cases eq_of_beq (α:=List UInt8) c
  rw[e]
  unfold Bn
  rw[<-a]
  exact⟨⟨rfl,rfl⟩,⟨rfl,rfl⟩,⟨rfl,rfl⟩,⟨rfl,rfl⟩,⟨rfl,rfl⟩,⟨rfl,rfl⟩,⟨rfl,rfl⟩,⟨rfl,rfl⟩,⟨rfl,rfl⟩,⟨rfl,rfl⟩,rfl,rfl,trivial⟩
 ·cases h
def zo:aC PP II:=aC.J0 23
 (λX args a=>match args with
  |[.agg cs,.ab 3 12 f]=>X.ak (Hy cs&&xx f 0&&xx f 1&&xx f 2) (a (OA [54] [49,56]))
  |_=>X.fail)
 λX sem hX args a h=>by
  split at h
  ·rename_i cs f
   obtain⟨b,c⟩:=hX.ak _ _ h
   simp only[bf]at b
   obtain⟨⟨⟨d,e⟩,g⟩,j⟩:=b
   cases Dz d
   refine⟨_,c,λ_=>rfl,λ_=>rfl,af.dA F0 ⟨trivial,trivial,⟨rfl,rfl⟩,⟨rfl,rfl⟩,rfl,rfl,⟨rfl,rfl⟩,trivial⟩ ⟨rfl,rfl,λi hi=>?_⟩⟩
   match i,hi with
   |0,_=>exact tB e
   |1,_=>exact tB g
   |2,_=>exact tB j
   |i+3,h=>exact absurd h O
  ·exact zR
def OC:aC PP II:=aC.J0 27
 (λX args a=>match args with
  |[.ab 3 10 f]=>X.ak (Vr f) (a UX)
  |_=>X.fail)
 λX sem hX args a h=>by
  split at h
  ·obtain⟨b,c⟩:=hX.ak _ _ h
   exact⟨_,c,λ_=>rfl,λ_=>rfl,Rx.dq ⟨Bk b,trivial⟩⟩
  ·exact zR
def xy:aC PP II:=aC.J0 28
 (λX args b=>match args with
  |[.agg cs,.agg [.ab 1 10 f]]=>X.ak (Hy cs&&Bo f) (b (OA [51] [48]))
  |_=>X.fail)
 λX sem hX args b h=>by
  split at h
  ·rename_i cs f
   obtain⟨a,c⟩:=hX.ak _ _ h
   simp only[bf]at a
   cases Dz a.1
   exact⟨_,c,λ_=>rfl,λ_=>rfl,af.dA Dy ⟨trivial,trivial,⟨rfl,rfl⟩,⟨rfl,rfl⟩,rfl,rfl,⟨rfl,rfl⟩,trivial⟩ ⟨zn a.2 _,trivial⟩⟩
  ·exact zR
def Xa:Bool:=true&&FY (Hm.get 0) (Hm.get 1) (Hm.get 2) (Hm.get 3) (Hm.get 6) (Hm.get 9) (Hm.get 10) (Hm.get 13)
def OD(R:Bool->AV->Prop):jE [S5,Hu,W4,zo,OC,xy] (mG PP II []) 1000 10 [] Hm (λa H=>R (ye H) a) (λ_ _=>False)=B Xa (B Xa (B Xa (B Xa (R Xa (.bool true))))):=U
def Ry:af PP II 10 [] Hm (.ret (.bool true) Hm):=by
 have ht:Xa=true:=Bl A A A A A A A A
 obtain⟨o,c,d⟩:=fJ iw [S5,Hu,W4,zo,OC,xy] (bm PP II []) 1000 10 [] Hm (λa H=>B (ye H) (a= .bool true)) (λ_ _=>False) (by
  rw[OD λb a=>B b (a= .bool true)]
  exact Ze ht (Ze ht (Ze ht (Ze ht (Ze ht A)))))
 cases o with
 |ret a H1=>
  obtain⟨e,k1⟩:=Zk c
  have k1:a= .bool true:=k1
  subst k1
  exact d.le (ky.of [] (tA e) A)
 |qt a H1=>exact c.elim
def S7:aC PP II:=aC.J0 10
 (λX args a=>match args with
  |[]=>a (.bool true)
  |_=>X.fail)
 λX sem hX args a h=>by
  split at h
  ·exact⟨_,h,λ_=>rfl,λ_=>rfl,Ry⟩
  ·exact zR
section
def J1(m:Nat)(C:Nat->Nat->Int)(agg g top:Int)(Q:AV->Prop):(kb [GU] [] 11 [.agg [.int a_ agg,.ab m 3 (au C),.int a_ g,.int a_ top]] Q)=(B (z (0<=if 3<M m then 3 else M m)&&z ((if 3<M m then 3 else M m)<=M m)) (B ((aI 3 (e_ ((if 3<M m then 3 else M m)-0)) λi=>au C (0+i))&&aN a_ agg&&aN a_ g&&aN a_ top) (Q (AV.agg [k_ (Query.nw (cJ agg (e_ ((if 3<M m then 3 else M m)-0)) (bG λi=>au C (0+i)) g top)) 3 (au (Query.C (cJ agg (e_ ((if 3<M m then 3 else M m)-0)) (bG λi=>au C (0+i)) g top))),k_ (Query.ng (cJ agg (e_ ((if 3<M m then 3 else M m)-0)) (bG λi=>au C (0+i)) g top)) 1 (aR (Query.G (cJ agg (e_ ((if 3<M m then 3 else M m)-0)) (bG λi=>au C (0+i)) g top))),b_ a_ (Query.a (cJ agg (e_ ((if 3<M m then 3 else M m)-0)) (bG λi=>au C (0+i)) g top)),b_ a_ (Query.fl (cJ agg (e_ ((if 3<M m then 3 else M m)-0)) (bG λi=>au C (0+i)) g top)),d_ (Query.nu (cJ agg (e_ ((if 3<M m then 3 else M m)-0)) (bG λi=>au C (0+i)) g top)),d_ (Query.de (cJ agg (e_ ((if 3<M m then 3 else M m)-0)) (bG λi=>au C (0+i)) g top)),b_ a_ (Query.top (cJ agg (e_ ((if 3<M m then 3 else M m)-0)) (bG λi=>au C (0+i)) g top))])))):=U
def J2{m:Nat}{C:Nat->Nat->Int}{agg g top:Int}(h:aI 3 m (au C)=true)(ha:aN a_ agg=true)(a:aN a_ g=true)(ht:aN a_ top=true):
  af PP II 11 [.agg [.int a_ agg,.ab m 3 (au C),.int a_ g,.int a_ top]] (g_ 12) (.ret (.agg (aY (cJ agg (min m 3) (bG (au C)) g top))) (g_ 12)):=by
 refine bY (ks:=[GU]) (T:=[]) (λσ=>iY _ σ) ?_
 rw[J1]
 have e:M m=(m:Int):=rfl
 have b:e_ ((if 3<M m then 3 else M m)-0)=min m 3:=by split<;>omega
 have c:(λi=>au C (0+i))=au C:=funext λi=>by rw[h_]
 rw[b,c,ha,a,ht]
 have d:aI 3 (min m 3) (au C)=true:=List.all_eq_true.2 λi hi=>List.all_eq_true.1 h i (List.mem_range.2 (by have:=List.mem_range.1 hi;omega))
 rw[d]
 exact cC _ _ (by split<;>simp only[bf,bn]<;>omega) (cC _ _ A A)
open Classical in
def tC(q:Query)(agg:Int)(m:Nat)(f:Nat->List AV)(g top:Int):Bool:=z (cJ agg (min m 3) (bG f) g top=q)
open Classical in
def J3{q:Query}{agg:Int}{m:Nat}{f:Nat->List AV}{g top:Int}(h:cJ agg (min m 3) (bG f) g top=q):tC q agg m f g top=true:=by
 unfold tC
 exact bW h
open Classical in
def J4{q:Query}{agg:Int}{m:Nat}{f:Nat->List AV}{g top:Int}(h:tC q agg m f g top=true):cJ agg (min m 3) (bG f) g top=q:=by
 unfold tC at h
 exact pT h
def OE(q:Query):aC PP II:=aC.pure 11
 (λX args c=>match args with
  |[.agg [.int a_ agg,.ab m 3 f,.int a_ g,.int a_ top]]=>X.ak (aI 3 m f&&aN a_ agg&&aN a_ g&&aN a_ top&&tC q agg m f g top) (c (.agg (aY q)))
  |_=>X.fail)
 λX sem hX args c h=>by
  split at h
  ·rename_i agg m f g top
   obtain⟨d,l⟩:=hX.ak _ _ h
   simp only[bf]at d
   obtain⟨⟨⟨⟨a1,a2⟩,n⟩,a4⟩,o⟩:=d
   have e:=J4 o
   have k:∀j,j<m->f j=au (bG f) j:=λj a=>(nP (c7 a1 a)).1
   have b:aI 3 m (au (bG f))=true:=List.all_eq_true.2 λj a=>by rw[<-k j (List.mem_range.1 a)];exact c7 a1 (List.mem_range.1 a)
   have:=J2 (agg:=agg) (g:=g) (top:=top) b a2 n a4
   have p:cJ agg (min m 3) (bG (au (bG f))) g top=q:=by
    rw[<-e]
    unfold cJ
    rw[SK]
   rw[p]at this
   refine⟨_,l,λ_=>rfl,λ_=>rfl,this.dq ⟨⟨⟨rfl,rfl⟩,⟨rfl,rfl,λi hi=>?_⟩,⟨rfl,rfl⟩,⟨rfl,rfl⟩,trivial⟩,trivial⟩⟩
   rw[k i hi];exact jq (bG f) _ i
  ·exact zR
open Classical in
def zp(k:Nat)(F:Nat->ay)(n:Nat)(f:Nat->List AV):Bool:=z (mZ n (bG f)=k/\oW n (bG f)=F)
open Classical in
def OF{k:Nat}{F:Nat->ay}{n:Nat}{f:Nat->List AV}(h:zp k F n f=true):mZ n (bG f)=k/\oW n (bG f)=F:=by
 unfold zp at h
 exact pT h
open Classical in
def OG{k:Nat}{F:Nat->ay}{n:Nat}{f:Nat->List AV}(h:mZ n (bG f)=k)(a:oW n (bG f)=F):zp k F n f=true:=by
 unfold zp
 exact bW ⟨h,a⟩
def Hz(k:Nat)(F:Nat->ay):aC PP II:=aC.pure 12
 (λX args a=>match args with
  |[.ab n 6 f]=>X.ak (aI 6 n f&&zp k F n f) (a (cm k F))
  |_=>X.fail)
 λX sem hX args a h=>by
  split at h
  ·rename_i n f
   obtain⟨b,c⟩:=hX.ak _ _ h
   rw[bf]at b
   obtain⟨a1,a2⟩:=b
   obtain⟨d,e⟩:=OF a2
   have:=Dq (X:=bG f) λj g=>(u7 (c7 a1 g)).2
   rw[d,e]at this
   refine⟨_,c,λ_=>rfl,λ_=>rfl,this.dq ⟨⟨rfl,rfl,λi hi=>?_⟩,trivial⟩⟩
   rw[(u7 (c7 a1 hi)).1]
   exact⟨⟨rfl,rfl⟩,⟨rfl,rfl⟩,⟨rfl,rfl⟩,⟨rfl,rfl⟩,⟨rfl,rfl⟩,⟨rfl,rfl⟩,trivial⟩
  ·exact zR
end
def Oq(q:Query):aC PP II:=aC.CC 31
 (λX args b=>match args with
  |[.agg cs,.agg ds]=>match iV ds with
   |some x=>X.ak (qT q cs&&ct q&&bB x) (b (.bK [.bool (jA q x),.bool (gk q x),.int a_ 0]))
   |_=>X.fail
  |_=>X.fail)
 λX sem hX args b h=>by
  split at h
  ·split at h
   ·rename_i x hx
    obtain⟨a,c⟩:=hX.ak _ _ h
    simp only[bf]at a
    cases fK hx
    obtain⟨r1,d,e⟩:=eb a.1.2
    obtain⟨l1,l2⟩:=mi a.1.1
    refine⟨_,c,λ_=>rfl,λσ=>?_,af.dA (Uk r1 d e a.2) l1 (uY x)⟩
    show [t_ σ (.agg _),_]=_
    rw[l2];rfl
   ·exact zR
  ·exact zR
def WS(q:Query)(n:Nat)(a:List (Nat×ai)):AH:={n:=n,t:=Tr.ofList ([(0,.cells [.ab 5 2 aA] .ro),(6,.cells dz (.ex 20)),(9,.cells [.str [48],.str [49]] .ro),(10,.cells [.str [49],.str [49]] .ro),(15,.cells (aY q) (.ty 32))]++a)}
def W0(k:Nat)(F:Nat->ay)(g n:Nat)(K:Nat->Nat->Int)(S:Nat->Nat->List UInt8)(i:Int)(a:List (Nat×AV)):Tr AV:=Tr.ofList ([(5,.bool true),(6,.ptr 15 0 0 0),(7,.ab k 10 (λj=>aF (F j))),(8,.ab n 9 (aX g K S)),(12,.int a_ i)]++a)
def Rz(q:Query)(k:Nat)(F:Nat->ay)(n:Nat)(K:Nat->Nat->Int)(S:Nat->Nat->List UInt8)(i:Int)(c p:Int->Nat)(x:Int):St:={t:=W0 k F q.ng n K S i [(13,.own 25 (c x) 2),(14,.own 26 (p x) 2),(15,.int a_ x)],nt:=165,H:=WS q 27 [(25,.rows (c x) 2 eu (.ty 30)),(26,.rows (p x) 2 eu (.ty 30))],df:=[]}
def RC(q:Query)(k:Nat)(F:Nat->ay)(n:Nat)(K:Nat->Nat->Int)(S:Nat->Nat->List UInt8)(i:Int)(c p:Nat):GE:=.one (.x 2 {t:=W0 k F q.ng n K S i [(13,.own 25 c 2),(14,.own 26 p 2)],nt:=165,H:=WS q 27 [(25,.rows c 2 eu (.ty 30)),(26,.rows p 2 eu (.ty 30))],df:=[]})
def Ot(q:Query)(k:Nat)(F:Nat->ay)(n:Nat)(K:Nat->Nat->Int)(S:Nat->Nat->List UInt8)(i:Int)(c p:Int->Nat)(cE b:Nat)(x:Int)(Q:Prop):(kr [qj q q.ng,Oq q,FR,W4] [] 9 14004 25 (Rz q k F n K S i c p) (λ_=>RC q k F n K S i cE b) (λx=>x+1) Q x)=(ah (z (x<M k)) (B (z (0<=x)&&z (x<M k)) (B (qT q [k_ q.nw 3 (au q.C),k_ q.ng 1 (aR q.G),b_ a_ q.a,b_ a_ q.fl,d_ q.nu,d_ q.de,b_ a_ q.top]&&ct q&&bB (F x.toNat)&&l_ q.ng q.ng) (B (z (0<=x)&&z (x<M k)) (B (qT q [k_ q.nw 3 (au q.C),k_ q.ng 1 (aR q.G),b_ a_ q.a,b_ a_ q.fl,d_ q.nu,d_ q.de,b_ a_ q.top]&&ct q&&bB (F x.toNat)) (B (z (0<=i)&&z (i<M n)) (B (bA q.ng (ae (aj q (F x.toNat)))&&bA q.ng (ae (K i.toNat))&&i_ q.ng 1000000&&l_ q.ng q.ng) (ah (!A9 q.ng (aM (ae (aj q (F x.toNat)))) (aM (ae (K i.toNat)))) (B (aN a_ (x+1)) (ax (p x) (p (x+1)) (zyR (p x) eu (ax (c x) (c (x+1)) (zyR (c x) eu (zyN q.nw (zyR q.nw (au q.C) (zyN q.ng (zyR q.ng (aR q.G) (zyI q.a (zyI q.fl (zyB q.nu (zyB q.de (zyI q.top (zyB [49] (zyB [49] (zyB [48] (zyB [49] (zyR 5 aA (zyI (x+1) (zyN k ((an k (λj=>aF (F j)) λj=>aF (F j))/\true=true/\ax (c x) (c (x+1)) (zyN n (zyR n (aX q.ng K S) (zyI i (ax (p x) (p (x+1)) Q)))))))))))))))))))))))))) (ah (jA q (F x.toNat)) (B (z (c x<=c x)&&true&&true&&z ((c x+1)*32<=140737488355328)&&true) (ah (gk q (F x.toNat)) (B (z (p x<=p x)&&true&&true&&z ((p x+1)*32<=140737488355328)&&true) (B (aN a_ (x+1)) (ax (p x+1) (p (x+1)) (an (p x+1) (λi=>bif n_ i (p x)then eu i else p_ 2 (q_ (0+(i-p x)*2) [d_ (bu 1),d_ (bu 1)])) eu/\ax (c x+1) (c (x+1)) (an (c x+1) (λi=>bif n_ i (c x)then eu i else p_ 2 (q_ (0+(i-c x)*2) [d_ (bu 1),d_ (bu 1)])) eu/\zyN q.nw (zyR q.nw (au q.C) (zyN q.ng (zyR q.ng (aR q.G) (zyI q.a (zyI q.fl (zyB q.nu (zyB q.de (zyI q.top (zyB [49] (zyB [49] (zyB [48] (zyB [49] (zyR 5 aA (zyI (x+1) (zyN k ((an k (λj=>aF (F j)) λj=>aF (F j))/\true=true/\ax (c x+1) (c (x+1)) (zyN n (zyR n (aX q.ng K S) (zyI i (ax (p x+1) (p (x+1)) Q))))))))))))))))))))))))) (B (aN a_ (x+1)) (ax (p x) (p (x+1)) (zyR (p x) eu (ax (c x+1) (c (x+1)) (an (c x+1) (λi=>bif n_ i (c x)then eu i else p_ 2 (q_ (0+(i-c x)*2) [d_ (bu 1),d_ (bu 1)])) eu/\zyN q.nw (zyR q.nw (au q.C) (zyN q.ng (zyR q.ng (aR q.G) (zyI q.a (zyI q.fl (zyB q.nu (zyB q.de (zyI q.top (zyB [49] (zyB [49] (zyB [48] (zyB [49] (zyR 5 aA (zyI (x+1) (zyN k ((an k (λj=>aF (F j)) λj=>aF (F j))/\true=true/\ax (c x+1) (c (x+1)) (zyN n (zyR n (aX q.ng K S) (zyI i (ax (p x) (p (x+1)) Q))))))))))))))))))))))))))) (ah (gk q (F x.toNat)) (B (z (p x<=p x)&&true&&true&&z ((p x+1)*32<=140737488355328)&&true) (B (aN a_ (x+1)) (ax (p x+1) (p (x+1)) (an (p x+1) (λi=>bif n_ i (p x)then eu i else p_ 2 (q_ (0+(i-p x)*2) [d_ (bu 1),d_ (bu 1)])) eu/\ax (c x) (c (x+1)) (zyR (c x) eu (zyN q.nw (zyR q.nw (au q.C) (zyN q.ng (zyR q.ng (aR q.G) (zyI q.a (zyI q.fl (zyB q.nu (zyB q.de (zyI q.top (zyB [49] (zyB [49] (zyB [48] (zyB [49] (zyR 5 aA (zyI (x+1) (zyN k ((an k (λj=>aF (F j)) λj=>aF (F j))/\true=true/\ax (c x) (c (x+1)) (zyN n (zyR n (aX q.ng K S) (zyI i (ax (p x+1) (p (x+1)) Q)))))))))))))))))))))))))) (B (aN a_ (x+1)) (ax (p x) (p (x+1)) (zyR (p x) eu (ax (c x) (c (x+1)) (zyR (c x) eu (zyN q.nw (zyR q.nw (au q.C) (zyN q.ng (zyR q.ng (aR q.G) (zyI q.a (zyI q.fl (zyB q.nu (zyB q.de (zyI q.top (zyB [49] (zyB [49] (zyB [48] (zyB [49] (zyR 5 aA (zyI (x+1) (zyN k ((an k (λj=>aF (F j)) λj=>aF (F j))/\true=true/\ax (c x) (c (x+1)) (zyN n (zyR n (aX q.ng K S) (zyI i (ax (p x) (p (x+1)) Q))))))))))))))))))))))))))))))))))) (ax (p x) b (zyR (p x) eu (ax (c x) cE (zyR (c x) eu (zyN q.nw (zyR q.nw (au q.C) (zyN q.ng (zyR q.ng (aR q.G) (zyI q.a (zyI q.fl (zyB q.nu (zyB q.de (zyI q.top (zyB [49] (zyB [49] (zyB [48] (zyB [49] (zyR 5 aA (zyN k ((an k (λj=>aF (F j)) λj=>aF (F j))/\true=true/\ax (c x) cE (zyN n (zyR n (aX q.ng K S) (zyI i (ax (p x) b True))))))))))))))))))))))))):=U
def UL(q:Query)(k:Nat)(F:Nat->ay)(n:Nat)(K:Nat->Nat->Int)(S:Nat->Nat->List UInt8)(i:Int):St:={t:=W0 k F q.ng n K S i [],nt:=165,H:=WS q 25 [],df:=[]}
def UM:GE:=.one (.x 0 {t:=Tr.ofList [(5,.bool true)],nt:=165,H:={n:=25,t:=.e},df:=[]})
def Ov(q:Query)(k:Nat)(F:Nat->ay)(n:Nat)(K:Nat->Nat->Int)(S:Nat->Nat->List UInt8)(c p:Int->Nat)(cE b:Nat)(i:Int)(Q:Prop):(kr [tc,W4] [(14004,25,Rz q k F n K S i c p 0,RC q k F n K S i cE b)] 9 9004 25 (UL q k F n K S) (λ_=>UM) (λi=>i+1) Q i)=(ah (z (i<M n)) (aE PP II false (aD II 9 14004) 25 (Rz q k F n K S i c p 0) (RC q k F n K S i cE b)/\ax (p 0) 0 (ax (c 0) 0 (zyN q.nw (zyR q.nw (au q.C) (zyN q.ng (zyR q.ng (aR q.G) (zyI q.a (zyI q.fl (zyB q.nu (zyB q.de (zyI q.top (zyB [49] (zyB [49] (zyB [48] (zyB [49] (zyR 5 aA (zyN k ((an k (λj=>aF (F j)) λj=>aF (F j))/\true=true/\ax (c 0) 0 (zyN n (zyR n (aX q.ng K S) (zyI i (ax (p 0) 0 (B ((j_ (f_ cE) λi=>bt.free (eu i))&&z (cE<=cE)) (B ((j_ (f_ cE) λi=>bt.free (eu i))&&z (cE<=cE)) (B (l_ cE cE&&i_ cE 400&&mY cE eu&&tp cE eu) (B ((j_ (f_ b) λi=>bt.free (eu i))&&z (b<=b)) (B ((j_ (f_ b) λi=>bt.free (eu i))&&z (b<=b)) (B (l_ b b&&i_ b 400&&mY b eu&&tp b eu) (B (z (0<=i)&&z (i<M n)) (ah (!(c_ (S i.toNat 0) (bu (pM (ru (pS eu)) cE))&&(c_ (S i.toNat 1) [49]&&true))) False (B (z (0<=i)&&z (i<M n)) (ah (!(c_ (S i.toNat 2) (bu (pM (ru (pS eu)) b))&&(c_ (S i.toNat 3) [49]&&true))) False (B (aN a_ (i+1)) (zyN q.nw (zyR q.nw (au q.C) (zyN q.ng (zyR q.ng (aR q.G) (zyI q.a (zyI q.fl (zyB q.nu (zyB q.de (zyI q.top (zyB [49] (zyB [49] (zyB [48] (zyB [49] (zyR 5 aA (zyN k ((an k (λj=>aF (F j)) λj=>aF (F j))/\true=true/\zyN n (zyR n (aX q.ng K S) (zyI (i+1) Q))))))))))))))))))))))))))))))))))))))))))))))))))) (true=true/\True)):=U
def UN(n:Nat)(X:Nat->Nat->Int)(m:Nat)(C:Nat->Nat->Int)(agg g top:Int)(q:Query)(k:Nat)(F:Nat->ay)(d:Nat)(b:Nat->Nat->Int)(c:Nat->Nat->List UInt8)(Q:AV->Prop):(jE [S7,OE (gW q),Hz k F,Vo (gW q) d b c,Vh,Wt q d b c,Vg q.ng] (mG PP II [(9004,25,UL (gW q) k F d b c 0,UM)]) 1000 9 [.agg [.int a_ agg,.ab m 3 (au C),.int a_ g,.int a_ top],.ab n 6 (fm X)] Hm (λa H=>B (i_ 14 H.n) (Q a)) (λ_ _=>False))=(B (FY (ai.cells [k_ 5 2 aA] Access.ro) (ai.cells [d_ [48],d_ [49]] Access.ro) (ai.cells [b_ a_ 7,b_ a_ 9,b_ a_ 11,b_ a_ 99] Access.ro) (ai.cells [AV.map (some 13)] Access.ro) (ai.cells [b_ .u64 1,b_ .u64 10,b_ .u64 100,b_ .u64 1000,b_ .u64 10000,b_ .u64 100000,b_ .u64 1000000,b_ .u64 10000000,b_ .u64 100000000,b_ .u64 1000000000,b_ .u64 10000000000,b_ .u64 100000000000,b_ .u64 1000000000000,b_ .u64 10000000000000,b_ .u64 100000000000000,b_ .u64 1000000000000000,b_ .u64 10000000000000000,b_ .u64 100000000000000000,b_ .u64 1000000000000000000,b_ .u64 10000000000000000000] (Access.ex 20)) (ai.cells [d_ [48],d_ [49]] Access.ro) (ai.cells [d_ [49],d_ [49]] Access.ro) (ai.map lS)) (B (aI 3 m (au C)&&aN a_ 0&&aN a_ g&&aN a_ 0&&tC (gW q) 0 m (au C) g 0) (B (aI 6 n (fm X)&&zp k F n (fm X)) (B ((qT (gW q) [k_ q.nw 3 (au q.C),k_ q.ng 1 (aR q.G),b_ a_ 1,b_ a_ q.fl,d_ q.nu,d_ q.de,b_ a_ 0]&&ct (gW q)&&fh k λi=>aF (F i))&&cX k (bP λi=>aF (F i))&&Bq (gW q) d b c k λi=>aF (F i)) (B ((fh k λi=>aF (F i))&&i_ k 400) (B ((z (q.nw=q.nw)&&true&&j_ (f_ q.nw) λi=>z (q.C i 0=q.C i 0)&&(z (q.C i 1=q.C i 1)&&(z (q.C i 2=q.C i 2)&&true)))&&((z (q.ng=q.ng)&&true&&j_ (f_ q.ng) λi=>z (q.G i=q.G i)&&true)&&(z (q.fl=q.fl)&&(z (q.nu=q.nu)&&(z (q.de=q.de)&&true))))) (B (FY (ai.cells [k_ 5 2 aA] Access.ro) (ai.cells [d_ [48],d_ [49]] Access.ro) (ai.cells [b_ a_ 7,b_ a_ 9,b_ a_ 11,b_ a_ 99] Access.ro) (ai.cells [AV.map (some 13)] Access.ro) (ai.cells [b_ .u64 1,b_ .u64 10,b_ .u64 100,b_ .u64 1000,b_ .u64 10000,b_ .u64 100000,b_ .u64 1000000,b_ .u64 10000000,b_ .u64 100000000,b_ .u64 1000000000,b_ .u64 10000000000,b_ .u64 100000000000,b_ .u64 1000000000000,b_ .u64 10000000000000,b_ .u64 100000000000000,b_ .u64 1000000000000000,b_ .u64 10000000000000000,b_ .u64 100000000000000000,b_ .u64 1000000000000000000,b_ .u64 10000000000000000000] (Access.ex 20)) (ai.cells [d_ [48],d_ [49]] Access.ro) (ai.cells [d_ [49],d_ [49]] Access.ro) (ai.map lS)) (B (qT (gW q) [k_ q.nw 3 (au q.C),k_ q.ng 1 (aR q.G),b_ a_ 1,b_ a_ q.fl,d_ q.nu,d_ q.de,b_ a_ 0]&&ct (gW q)&&JR k (eD (bP λi=>aF (F i)))&&cX k (qP (eD (bP λi=>aF (F i))))&&Bq (gW q) d b c k λi=>aF (qP (eD (bP λi=>aF (F i))) i)) (B (wT q.ng d (aX q.ng b c)&&wT q.ng d (aX q.ng b c)&&l_ d d&&i_ d 1000000&&i_ q.ng 1000000&&j_ (f_ d) λi=>(j_ (f_ q.ng) λk=>z (CZ (aX q.ng b c) i k=CZ (aX q.ng b c) i k))&&z (nV (aX q.ng b c) i 0=nV (aX q.ng b c) i 0)&&z (nV (aX q.ng b c) i 1=nV (aX q.ng b c) i 1)&&z (nV (aX q.ng b c) i 2=nV (aX q.ng b c) i 2)&&z (nV (aX q.ng b c) i 3=nV (aX q.ng b c) i 3)) (aE PP II false (aD II 9 9004) 25 (UL (gW q) k F d b c 0) UM/\zyN q.nw (zyR q.nw (au q.C) (zyN q.ng (zyR q.ng (aR q.G) (zyI q.fl (zyB q.nu (zyB q.de (zyB [49] (zyB [49] (zyB [48] (zyB [49] (zyR 5 aA (zyN k ((an k (λi=>aF (F i)) λj=>aF (F j))/\true=true/\zyN d (zyR d (aX q.ng b c) (Q (AV.bool true)))))))))))))))))))))))))):=U
end
end Go.Sx
