/- The proof of a statement of the seat, part 38. -/
import Derived.Test.YtoijalagmmgkbaaGreatDoorX30
import Derived.Test.YtoijalagmmgkbaaGreatDoorX24
import Derived.Test.YtoijalagmmgkbaaGreatDoorX37
set_option linter.all false
set_option linter.defProp false
set_option maxRecDepth 1000000
namespace Go.Sx
open Go
open Int renaming ofNat->B,toNat->a_
open Go.IntKind renaming i64->z
open Decidable renaming decide->b_
open List renaming beq->c_,range->m_,all->p_
open AH renaming blank->d_
open Nat renaming zero_add->e_,ble->g_,zero_le->h_,blt->j_,beq->o_
open Tr renaming ofList->f_
open Bool renaming and_true->i_
open AV renaming int->k_,az->l_,le->n_
noncomputable section
def Pd(n:Nat)(a:Nat->Int)(C:Int->Nat->Int)(i:Int):St:={t:=f_ [(1,.az n 1 (ae a)),(2,.fn 61 [] []),(7,.slice 12 0 0 n (some n) 1),(18,.az n 1 (ae a)),(19,.int z (B n)),(20,.int z i)],nt:=38,H:={n:=13,t:=f_ [(12,.rows n 1 (ae (C i)) (.ty 3))]},df:=[]}
def Pe(n:Nat)(C:Nat->Int):GE:=.one (.x 0 {t:=f_ [(7,.slice 12 0 0 n (some n) 1)],nt:=38,H:={n:=13,t:=f_ [(12,.rows n 1 (ae C) (.ty 3))]},df:=[]})
def Oy(n:Nat)(a:Nat->Int)(C:Int->Nat->Int)(Z:Nat->Int)(i:Int)(Q:Prop):(kr [] [] 174 4001 13 (Pd n a C) (λ_=>Pe n Z) (λi=>i+1) Q i)=(let b:=(b_ (0<=i)&&b_ (i<B n));(ah (b_ (i<B n)) (aa b (aa (b_ (0+i.toNat<n)) (aa b (aa (aN z (C i (0+i.toNat)+a i.toNat)) (aa b (aa (b_ (0+i.toNat<n)) (aa (aN z (i+1)) (zyN n (an n (λc=>[k_ z (bif b_ (c=0+i.toNat)then C i (0+i.toNat)+a i.toNat else C i c)]) (ae (C (i+1)))/\zyN n (zyN n (zyI (B n) (zyN n (zyR n (ae a) (zyI (i+1) (zyN n (zyR n (ae a) Q)))))))))))))))) (zyN n (an n (ae (C i)) (ae Z)/\zyN n (zyN n True))))):=U
def UP(n:Nat)(a b:Nat->Int)(C:Int->Nat->Int)(Z:Nat->Int)(Q:AV->Prop):(kb [] [(4001,13,Pd n b C 0,Pe n Z)] 174 [.az n 1 (ae a),.az n 1 (ae b),.fn 61 [] []] Q)=(aa (b_ (0<=if B n>B n then B n else B n)&&b_ ((if B n>B n then B n else B n)<=if B n>B n then B n else B n)&&xF (8*if B n>B n then B n else B n) 281474976710656&&xF (if B n>B n then B n else B n) 9223372036854775807) (aa (b_ ((0+if n<=a_ (if B n>B n then B n else B n)then n else a_ (if B n>B n then B n else B n))<=a_ (if B n>B n then B n else B n))) (aE PP II false (aD II 174 4001) 13 (Pd n b C 0) (Pe n Z)/\ax (a_ (if B n>B n then B n else B n)) n (an (a_ (if B n>B n then B n else B n)) (λi=>bif g_ 0 i&&j_ i (0+if n<=a_ (if B n>B n then B n else B n)then n else a_ (if B n>B n then B n else B n))then ae a (i-0)else [k_ z 0]) (ae (C 0))/\ax (a_ (if B n>B n then B n else B n)) n (ax (a_ (if B n>B n then B n else B n)) n (zyI (B n) (zyN n (zyR n (ae b) (zyN n (zyR n (ae b) (aa ((p_ (List.range.loop n []) λi=>true)&&b_ (0+n<=n)) (Q (l_ n 1 λi=>ae Z (0+i)))))))))))))):=U
def Rq(n:Nat)(a:Nat->Int)(C:Int->Nat->Int)(Z:Nat->Int)(Q:AV->Prop):(kb [] [(4001,13,Pd n a C 0,Pe n Z)] 174 [.aw,.az n 1 (ae a),.fn 61 [] []] Q)=(aa (b_ (0<=if B n>0 then B n else 0)&&b_ ((if B n>0 then B n else 0)<=if B n>0 then B n else 0)&&xF (8*if B n>0 then B n else 0) 281474976710656&&xF (if B n>0 then B n else 0) 9223372036854775807) (aa (b_ ((0+if 0<=a_ (if B n>0 then B n else 0)then 0 else a_ (if B n>0 then B n else 0))<=a_ (if B n>0 then B n else 0))) (aE PP II false (aD II 174 4001) 13 (Pd n a C 0) (Pe n Z)/\ax (a_ (if B n>0 then B n else 0)) n (an (a_ (if B n>0 then B n else 0)) (λi=>bif g_ 0 i&&j_ i (0+if 0<=a_ (if B n>0 then B n else 0)then 0 else a_ (if B n>0 then B n else 0))then []else [k_ z 0]) (ae (C 0))/\ax (a_ (if B n>0 then B n else 0)) n (ax (a_ (if B n>0 then B n else 0)) n (zyI (B n) (zyN n (zyR n (ae a) (zyN n (zyR n (ae a) (aa ((p_ (List.range.loop n []) λi=>true)&&b_ (0+n<=n)) (Q (l_ n 1 λi=>ae Z (0+i)))))))))))))):=U
def lH(a b:Nat->Int)(j:Int)(i:Nat):Int:=if(i:Int)<j then a i+b i else a i
def Dw(n:Nat)(a b:Nat->Int)(o:n<=1000000)(hA:∀i,i<n->aN z (a i+b i)=true):aE PP II false (aD II 174 4001) 13 (Pd n b (lH a b) 0) (Pe n (λi=>a i+b i)):=by
 have key:=aE.of (ι:=Nat) iw [] (bm PP II []) 1000 (c:=aD II 174 4001) (ir:=false) 13 (λj=>j<=n) (λj=>Pd n b (lH a b) (j:Int)) (λ_=>Pe n (λi=>a i+b i)) (λj=>n-j) (λj=>j+1) 0 A (h_ _) λj d=>?_
 ·exact key
 have d:j<=n:=d
 have go:∀(i:Int)(Q:Prop),i=(j:Int)->(j<n->Q)->kr [] [] 174 4001 13 (Pd n b (lH a b)) (λ_=>Pe n (λi=>a i+b i)) (λj=>j+1) Q i:=λi Q hi hQ=>by
  rw[Oy]
  have p:B n=(n:Int):=rfl
  have g:a_ i=j:=O
  rw[g,e_]
  refine Zg (λh=>?_) λh=>?_
  ·have ha:(b_ (0<=i)&&b_ (i<B n))=true:=by simp only[bf,bn];omega
   have f:b_ (j<n)=true:=bW O
   have l:lH a b i j=a j:=by unfold lH;rw[if_neg O]
   rw[l]
   refine cC _ _ ha (cC _ _ f (cC _ _ ha (cC _ _ (hA j O) (cC _ _ ha (cC _ _ f (cC _ _ (aq O O) ?_))))))
   refine YG A ⟨λk m σ=>?_,YG A (YG A (Zf A (YG A ⟨bL _ _,Zf A (YG A ⟨bL _ _,hQ O⟩)⟩)))⟩
   show bt.le σ [.int z (bif b_ (k=j)then a j+b j else lH a b i k)] [.int z (lH a b (i+1) k)]
   have:(bif b_ (k=j)then a j+b j else lH a b i k)=lH a b (i+1) k:=by
    unfold lH
    by_cases e:k=j
    ·rw[bW e,cond_true,if_pos O,e]
    ·rw[nZ e,cond_false]
     by_cases c:(k:Int)<i
     ·rw[if_pos c,if_pos O]
     ·rw[if_neg c,if_neg O]
   rw[this]
   exact⟨⟨rfl,rfl⟩,trivial⟩
  ·refine YG A ⟨λk m σ=>?_,YG A (YG A trivial)⟩
   show bt.le σ [.int z (lH a b i k)] [.int z (a k+b k)]
   have:lH a b i k=a k+b k:=by unfold lH;rw[if_pos O]
   rw[this]
   exact⟨⟨rfl,rfl⟩,trivial⟩
 exact go (j:Int) _ A λh=>⟨h,O,rfl⟩
def UQ{n:Nat}{a b:Nat->Int}(c:n<=1000000)(hA:∀i,i<n->aN z (a i+b i)=true):
  af PP II 174 [.az n 1 (ae a),.az n 1 (ae b),.fn 61 [] []] (d_ 12) (.ret (.az n 1 (ae λi=>a i+b i)) (d_ 12)):=by
 refine bY (ks:=[]) (T:=[(4001,13,Pd n b (lH a b) 0,Pe n (λi=>a i+b i))]) (λσ=>⟨rfl,rfl,λi _=>pr _ _ _⟩) ?_
 rw[UP]
 have e:B n=(n:Int):=rfl
 have m:(if B n>B n then B n else B n)=B n:=by split<;>rfl
 have t:a_ (B n)=n:=O
 rw[m,t,if_pos (dw n),e_]
 refine cC _ _ zN (cC _ _ (bW (dw n)) ⟨Dw n a b c hA,?_⟩)
 refine YG A ⟨λk d σ=>?_,YG A (YG A (Zf A (YG A ⟨bL _ _,YG A ⟨bL _ _,cC _ _ ?_ ?_⟩⟩)))⟩
 ·show bt.le σ (bif g_ 0 k&&j_ k n then ae a (k-0)else [.int z 0]) (ae (lH a b 0) k)
  rw[eV d,i_,kV (h_ k),cond_true]
  show bt.le σ [.int z (a k)] [.int z (lH a b 0 k)]
  have:lH a b 0 k=a k:=by unfold lH;rw[if_neg O]
  rw[this]
  exact⟨⟨rfl,rfl⟩,trivial⟩
 ·rw[bW (show n<=n from dw n),i_]
  exact List.all_eq_true.2 λ_ _=>rfl
 ·show l_ n 1 (λi=>ae (λi=>a i+b i) (0+i))=_
  congr 1
  funext i
  rw[e_]
def Rs{n:Nat}{a:Nat->Int}(b:n<=1000000)(hA:∀i,i<n->aN z (0+a i)=true):
  af PP II 174 [.aw,.az n 1 (ae a),.fn 61 [] []] (d_ 12) (.ret (.az n 1 (ae λi=>0+a i)) (d_ 12)):=by
 refine bY (ks:=[]) (T:=[(4001,13,Pd n a (lH (λ_=>0) a) 0,Pe n (λi=>0+a i))]) (λσ=>⟨rfl,rfl,λi _=>pr _ _ _⟩) ?_
 rw[Rq]
 have c:B n=(n:Int):=rfl
 have m:(if B n>0 then B n else 0)=B n:=by split<;>omega
 have t:a_ (B n)=n:=O
 rw[m,t,if_pos (h_ n),e_]
 refine cC _ _ zN (cC _ _ (bW (h_ n)) ⟨Dw n (λ_=>0) a b hA,?_⟩)
 refine YG A ⟨λk d σ=>?_,YG A (YG A (Zf A (YG A ⟨bL _ _,YG A ⟨bL _ _,cC _ _ ?_ ?_⟩⟩)))⟩
 ·show bt.le σ (bif g_ 0 k&&j_ k 0 then []else [.int z 0]) (ae (lH (λ_=>0) a 0) k)
  rw[js (lZ k),Bool.and_false,cond_false]
  show bt.le σ [.int z 0] [.int z (lH (λ_=>0) a 0 k)]
  have:lH (λ_=>0) a 0 k=0:=by unfold lH;rw[if_neg O]
  rw[this]
  exact⟨⟨rfl,rfl⟩,trivial⟩
 ·rw[bW (O:0+n<=n),i_]
  exact List.all_eq_true.2 λ_ _=>rfl
 ·show l_ n 1 (λi=>ae (λi=>0+a i) (0+i))=_
  congr 1
  funext i
  rw[e_]
def Yh:aC PP II:=aC.pure 174
 (λX args b=>match args with
  |[.az n 1 f,.az m 1 g,.fn 61 [] []]=>X.ak (bA n f&&bA m g&&o_ m n&&g_ n 1000000&&(m_ n).all λi=>aN z (aM f i+aM g i)) (b (.az n 1 (ae λi=>aM f i+aM g i)))
  |[.aw,.az m 1 g,.fn 61 [] []]=>X.ak (bA m g&&g_ m 1000000&&(m_ m).all λi=>aN z (0+aM g i)) (b (.az m 1 (ae λi=>0+aM g i)))
  |_=>X.fail)
 λX sem hX args b h=>by
  split at h
  ·obtain⟨a,c⟩:=hX.ak _ _ h
   simp only[bf]at a
   obtain⟨⟨⟨⟨a1,a2⟩,d⟩,a4⟩,e⟩:=a
   cases dE d
   exact⟨_,c,λ_=>rfl,λ_=>rfl,af.nT (UQ (jX a4) λi hi=>List.all_eq_true.1 e i (List.mem_range.2 hi)) (cy a1) (cy a2) ⟨rfl,trivial,trivial⟩⟩
  ·obtain⟨a,c⟩:=hX.ak _ _ h
   simp only[bf]at a
   obtain⟨⟨a1,a2⟩,d⟩:=a
   exact⟨_,c,λ_=>rfl,λ_=>rfl,af.nT (Rs (jX a2) λi hi=>List.all_eq_true.1 d i (List.mem_range.2 hi)) trivial (cy a1) ⟨rfl,trivial,trivial⟩⟩
  ·exact zR
def Vr(f:Nat->List AV):Bool:=fh 3 f&&b_ (bP f 0=ur 0)&&b_ (bP f 1=ur 1)&&b_ (bP f 2=ur 2)
def Bk{f:Nat->List AV}(h:Vr f=true):n_ (λl=>l) (.az 3 10 f) (jz 3 ur):=by
 unfold Vr at h
 simp only[bf,bn]at h
 obtain⟨⟨⟨a,b⟩,c⟩,d⟩:=h
 have h:=fq a
 obtain⟨e,g,k⟩:=h
 refine⟨rfl,rfl,λi hi=>?_⟩
 have k:=k i hi
 match i,hi with
 |0,_=>show bt.le _ (f 0) (aF (ur 0));rw[<-b];exact k
 |1,_=>show bt.le _ (f 1) (aF (ur 1));rw[<-c];exact k
 |2,_=>show bt.le _ (f 2) (aF (ur 2));rw[<-d];exact k
 |i+3,h=>exact absurd h O
def W3(w:AV)(q:Query):Bool:=match w with
 | .aw=>o_ q.nw 0
 | .az 1 3 g=>o_ q.nw 1&&(match g 0 with|[.int z x,.int z y,.int z a]=>b_ (x=q.C 0 0)&&b_ (y=q.C 0 1)&&b_ (a=q.C 0 2)|_=>false)
 |_=>false
def UR{w:AV}{q:Query}(h:W3 w q=true):n_ (λl=>l) w (.az q.nw 3 (au q.C))/\∀σ,AV.bD σ w=w:=by
 unfold W3 at h
 split at h
 ·exact⟨dE h,λ_=>rfl⟩
 ·rename_i g
  rw[bf]at h
  obtain⟨c,b⟩:=h
  have c:=dE c
  refine⟨⟨c.symm,rfl,λi hi=>?_⟩,λ_=>rfl⟩
  have:i=0:=O
  subst this
  split at b
  ·rename_i x y a e
   simp only[bf,bn]at b
   rw[e,b.1.1,b.1.2,b.2]
   exact⟨⟨rfl,rfl⟩,⟨rfl,rfl⟩,⟨rfl,rfl⟩,trivial⟩
  ·cases b
 ·cases h
def Rt:af PP II 13 [.agg [.aw,.aw,.int z 0,.int z 0,.str [],.str [],.int z 0],jz 3 ur] HR (.ret (.bK [.aw,.int z 200]) HR):=by
 refine qh (ks:=[]) (T:=[]) ?_
 have:∀Q:AV->Prop,kq [] [] 13 [.agg [.aw,.aw,.int z 0,.int z 0,.str [],.str [],.int z 0],jz 3 ur] Q=Q (.bK [.aw,.int z 200]):=λQ=>U
 rw[this]
 exactλσ=>⟨trivial,⟨rfl,rfl⟩,trivial⟩
def S5:aC PP II:=aC.s9 13
 (λX args d=>match args with
  |[.agg [w,.aw,.int z a,.int z fl,.str nu,.str de,.int z t],.az 3 10 f]=>match b_ (a=0)with
   |true=>X.ak (W3 w (zm 0 0 0 0 [] [])&&b_ (fl=0)&&c_ nu []&&c_ de []&&b_ (t=0)&&Vr f) (d (.bK [.aw,.int z 200]))
   |false=>X.ak (W3 w (oX a fl).1&&b_ (a=(oX a fl).1.a)&&b_ (fl=(oX a fl).1.fl)&&c_ nu (oX a fl).1.nu&&c_ de (oX a fl).1.de&&b_ (t=(oX a fl).1.top)&&Vr f) (d (Dv (oX a fl).2.1 (oX a fl).2.2))
  |_=>X.fail)
 λX sem hX args d h=>by
  split at h
  ·rename_i w a fl nu de t f
   split at h
   ·rename_i ha
    obtain⟨c,e⟩:=hX.ak _ _ h
    simp only[bf,bn]at c ha
    obtain⟨⟨⟨⟨⟨b,g⟩,i⟩,j⟩,k⟩,l⟩:=c
    subst ha g k
    cases eq_of_beq (α:=List UInt8) i
    cases eq_of_beq (α:=List UInt8) j
    have m:w= .aw:=by
     unfold W3 at b
     split at b
     ·rfl
     ·rw[bf]at b;cases b.1
     ·cases b
    subst m
    exact⟨_,e,λ_=>rfl,λ_=>rfl,af.dA Rt ⟨trivial,trivial,⟨rfl,rfl⟩,⟨rfl,rfl⟩,rfl,rfl,⟨rfl,rfl⟩,trivial⟩ (Bk l)⟩
   ·obtain⟨c,e⟩:=hX.ak _ _ h
    simp only[bf,bn]at c
    obtain⟨⟨⟨⟨⟨⟨b,g⟩,i⟩,j⟩,k⟩,l⟩,n⟩:=c
    obtain⟨o,p⟩:=UR b
    refine⟨_,e,λ_=>rfl,λσ=>?_,af.dA (UO a fl) ⟨o,(S3 a fl).2.2,⟨rfl,g⟩,⟨rfl,i⟩,eq_of_beq (α:=List UInt8) j,eq_of_beq (α:=List UInt8) k,⟨rfl,l⟩,trivial⟩ (Bk n)⟩
    show [AV.agg [AV.bD σ w,.aw,.int z a,.int z fl,.str nu,.str de,.int z t],l_ 3 10 f]=_
    rw[p]
  ·exact zR
def Hu:aC PP II:=aC.s9 14
 (λX args a=>match args with
  |[.agg [.aw,.aw,.int z 2,.int z 8,.str [],.str [],.int z 0],.az 3 10 f,.az 3 1 g]=>X.ak (Vr f&&bA 3 g&&b_ (aM g 0=11)&&b_ (aM g 1=12)&&b_ (aM g 2=13)) (a (Dv [51,54] [51,54]))
  |_=>X.fail)
 λX sem hX args a h=>by
  split at h
  ·rename_i f g
   obtain⟨b,c⟩:=hX.ak _ _ h
   simp only[bf,bn]at b
   obtain⟨⟨⟨⟨d,e⟩,j⟩,l⟩,m⟩:=b
   refine⟨_,c,λ_=>rfl,λ_=>rfl,af.nT Ox ⟨(rfl:0=0),(rfl:0=0),⟨rfl,rfl⟩,⟨rfl,rfl⟩,rfl,rfl,⟨rfl,rfl⟩,trivial⟩ (Bk d) ?_⟩
   obtain⟨_,_,k⟩:=cy e
   refine⟨rfl,rfl,λi hi=>?_⟩
   have k:=k i hi
   match i,hi with
   |0,_=>show bt.le _ (g 0) [.int z 11];rw[<-j];exact k
   |1,_=>show bt.le _ (g 1) [.int z 12];rw[<-l];exact k
   |2,_=>show bt.le _ (g 2) [.int z 13];rw[<-m];exact k
   |i+3,h=>exact absurd h O
  ·exact zR
def Oz(n d:Int):Bool:=(b_ (d=1)&&[(0:Int),1,2,3,6,7,10,11,12,18,20,21,27,36,62].contains n)||(b_ (d=2)&&b_ (n=1))
def Ru(n d:Int):AV:=.agg [.str (bu n.toNat),.str (bu d.toNat)]
set_option maxHeartbeats 0 in
def US{n d:Int}(h:Oz n d=true):af PP II 34 [.int z n,.int z d] (d_ 12) (.ret (Ru n d) (d_ 12)):=by
 have go:∀{n d:Int},(∀Q:AV->Prop,kb [] [] 34 [.int z n,.int z d] Q=Q (Ru n d))->af PP II 34 [.int z n,.int z d] (d_ 12) (.ret (Ru n d) (d_ 12)):=λ{n d} e=>by
  refine bY (ks:=[]) (T:=[]) (λ_=>⟨rfl,rfl,trivial⟩) ?_
  rw[e]
 unfold Oz at h
 simp only[Bool.or_eq_true,bf,bn,List.contains_iff_mem,List.mem_cons,List.not_mem_nil,or_false]at h
 rcases h with⟨rfl,h⟩|⟨rfl,rfl⟩
 ·rcases h with rfl|rfl|rfl|rfl|rfl|rfl|rfl|rfl|rfl|rfl|rfl|rfl|rfl|rfl|rfl
  all_goals exact go λQ=>by as_aux_lemma=>kernel_rfl
 ·exact go λQ=>by as_aux_lemma=>kernel_rfl
def W4:aC PP II:=aC.pure 34
 (λX args a=>match args with
  |[.int z n,.int z d]=>X.ak (Oz n d) (a (Ru n d))
  |_=>X.fail)
 λX sem hX args a h=>by
  split at h
  ·obtain⟨b,c⟩:=hX.ak _ _ h
   exact⟨_,c,λ_=>rfl,λ_=>rfl,US b⟩
  ·exact zR
section
def af.W5{P:Program}{I:ba}{f:FuncId}{args:List AV}{a:AV}{H0 H:AH}{m:Nat}(h:af P I f args H0 (.ret a H0))(t:H0.n=m)(C:I.G<=m)(D:m<=H.n)(o:∀i,m<=i->H0.get i= .dead)
  (q:∀i,i<m->H0.get i≠ .dead->H.get i=H0.get i/\∀σ:Nat->Nat,(∀j,j<m->σ j=j)->(H0.get i).bD σ=H0.get i) (s:∀σ,bt.bD σ args=args) (ha:∀σ,a.bD σ=a):
  af P I f args H (.ret a H):=by
 intro c ρ w vs hG E u
 let σ:Nat->Nat:=λl=>if l<m then l else H.n+(l-m)
 have b:∀i,i<m->σ i=i:=λi hi=>by simp only[σ,if_pos hi]
 have d:∀i,H0.get i≠ .dead->i<m:=λi hi=>Nat.lt_of_not_le λe=>hi (o i e)
 have v:∀l,H0.get l≠ .dead->H.get (σ l)=(H0.get l).bD σ:=λl hl=>by
  obtain⟨F,J⟩:=q l (d l hl) hl
  rw[b l (d l hl),J σ b,F]
 have K:Sub I.G σ H0 H :=
  {lt:=λl hl=>by rw[t]at hl;rw[b l hl];omega
   ge:=λl hl=>by
    rw[t]at hl⊢
    have :¬ l<m:=Nat.not_lt.2 hl
    simp only[σ,if_neg this]
   same:=v
   inj:=λl y L M e=>by rw[b l (d l L),b y (d y M)]at e;exact e
   fp:=λg N=>⟨by rw[t];omega,b g O⟩
   low:=λl hl=>o l (by rw[t]at hl;exact hl)}
 have ht:Eb σ H0 (CO.ret a H0).heap H H :=
  {n:=by show H.n=H.n+(H0.n-H0.n);omega
   old:=v
   new:=λl hl=>by
    rw[t]at hl
    have :¬ l<m:=Nat.not_lt.2 hl
    show H.get (σ l)=(H0.get l).bD σ
    rw[o l hl]
    simp only[σ,if_neg this]
    rw[u.low _ O]
    rfl
   rest:=λ_ _ _=>rfl}
 have:=h.lift K ht
 rw[s]at this
 have e:(CO.ret a H0).iT σ H= .ret a H:=by
  show CO.ret (a.bD σ) H=_
  rw[ha]
 rw[e]at this
 exact this c ρ w vs hG E u
def Hm:AH:={n:=14,t:=f_ [(0,.cells [.az 5 2 aA] .ro),(1,.cells [.str [48],.str [49]] .ro),(2,.cells [.int z 7,.int z 9,.int z 11,.int z 99] .ro),(3,.cells [.map (some 13)] .ro),(6,.cells dz (.ex 20)),(9,.cells [.str [48],.str [49]] .ro),(10,.cells [.str [49],.str [49]] .ro),(13,.map lS)]}
open Classical in
def FY(c d e f g h a b:bq):Bool:=b_ (c=Hm.get 0/\d=Hm.get 1/\e=Hm.get 2/\f=Hm.get 3/\g=Hm.get 6/\h=Hm.get 9/\a=Hm.get 10/\b=Hm.get 13)
def ye(H:AH):Bool:=g_ 14 H.n&&FY (H.get 0) (H.get 1) (H.get 2) (H.get 3) (H.get 6) (H.get 9) (H.get 10) (H.get 13)
open Classical in
def Bl{e f g h i j a b:bq}(k:e=Hm.get 0)(l:f=Hm.get 1)(m:g=Hm.get 2)(n:h=Hm.get 3)(o:i=Hm.get 6)(p:j=Hm.get 9)(c:a=Hm.get 10)(d:b=Hm.get 13):FY e f g h i j a b=true:=by
 unfold FY
 exact bW ⟨k,l,m,n,o,p,c,d⟩
def FZ(i:Nat):Hm.get i=if i=13 then Hm.get 13 else if i=10 then Hm.get 10 else if i=9 then Hm.get 9 else if i=6 then Hm.get 6 else if i=3 then Hm.get 3 else if i=2 then Hm.get 2 else if i=1 then Hm.get 1 else if i=0 then Hm.get 0 else .dead:=by
 repeat' split
 all_goals first
  |(rename_i h;rw[h];done)
  |skip
 unfold Hm
 simp only[AH.get,f_,Tr.bH,Tr.qV]
 simp[*]
def sh{P:Nat->bq->Prop}(d:P 0 (Hm.get 0))(e:P 1 (Hm.get 1))(f:P 2 (Hm.get 2))(g:P 3 (Hm.get 3))(j:P 6 (Hm.get 6))(k:P 9 (Hm.get 9))(a:P 10 (Hm.get 10))(b:P 13 (Hm.get 13))(c:∀i,P i .dead)(i:Nat):P i (Hm.get i):=by
 rw[FZ]
 repeat' split
 all_goals first
  |exact c i
  |(rename_i h;rw[h];assumption)
open Classical in
def Hv{H:AH}(h:ye H=true):14<=H.n/\∀i,Hm.get i≠ .dead->H.get i=Hm.get i:=by
 unfold ye FY at h
 simp only[bf,bn]at h
 obtain⟨d,f,k1,g,j,k,l,a,c⟩:=h
 refine⟨jX d,λi=>?_⟩
 exact sh (P:=λi b=>b≠ .dead->H.get i=b) (λ_=>f) (λ_=>k1) (λ_=>g) (λ_=>j) (λ_=>k) (λ_=>l) (λ_=>a) (λ_=>c) (λi e=>absurd A e) i
def UT(σ:Nat->Nat)(i:Nat):bt.le σ (aA i) (aA i):=by
 unfold aA
 split
 ·exact⟨rfl,trivial,trivial⟩
 all_goals exact⟨rfl,⟨rfl,trivial,trivial⟩,trivial⟩
def W6(σ:Nat->Nat)(h:σ 13=13)(l:Nat):(Hm.get l).le σ (Hm.get l):=
 sh (P:=λ_ b=>b.le σ b) ⟨⟨⟨rfl,rfl,λi _=>UT _ i⟩,trivial⟩,trivial⟩ ⟨⟨rfl,rfl,trivial⟩,trivial⟩ ⟨⟨⟨rfl,rfl⟩,⟨rfl,rfl⟩,⟨rfl,rfl⟩,⟨rfl,rfl⟩,trivial⟩,trivial⟩ ⟨⟨h.symm,trivial⟩,trivial⟩ ⟨pz _,rfl⟩ ⟨⟨rfl,rfl,trivial⟩,trivial⟩ ⟨⟨rfl,rfl,trivial⟩,trivial⟩
   ⟨rfl,⟨⟨rfl,rfl⟩,⟨rfl,rfl⟩,⟨rfl,rfl⟩,⟨rfl,rfl⟩,⟨rfl,rfl⟩,trivial⟩,⟨⟨⟨rfl,trivial,trivial⟩,trivial⟩,⟨⟨rfl,trivial,trivial⟩,trivial⟩,⟨⟨rfl,trivial,trivial⟩,trivial⟩,⟨⟨rfl,trivial,trivial⟩,trivial⟩,⟨⟨rfl,trivial,trivial⟩,trivial⟩,trivial⟩⟩ (λ_=>trivial) l
def tA{H:AH}(h:ye H=true):im Hm.n [] H Hm:=by
 obtain⟨k2,f⟩:=Hv h
 refine im.of A A A (by rfl) (kV k2) (gS.2 λl hl=>?_)
 have hl:l<14:=hl
 have a:∀j,j<14->sig Hm.n [] H.n j=j:=λj g=>by
  unfold sig
  rw[show j_ j Hm.n=true from(Nat.blt_eq ..).mpr g];rfl
 have c:∀b:bq,(b≠ .dead->H.get l=b)->b.le (sig Hm.n [] H.n) b->tO (sig Hm.n [] H.n) H.n l H b:=λb i k=>by
  unfold tO
  split
  ·trivial
  ·rename_i d
   rw[a l hl,if_pos O,i (λe=>d e)]
   exact k
 exact c _ (f l) (W6 _ (a 13 O) l)
def af.J0{f:FuncId}{args:List AV}{a:AV}{H:AH}(h:af PP II f args Hm (.ret a Hm))(j:ye H=true)(ha:∀σ,a.bD σ=a)(c:∀σ,bt.bD σ args=args):af PP II f args H (.ret a H):=by
 obtain⟨k2,l⟩:=Hv j
 refine h.W5 (m:=14) A zC k2 (λi hi=>?_) (λi hi o=>⟨l i o,λσ d=>?_⟩) c ha
 ·rw[FZ,if_neg O,if_neg O,if_neg O,if_neg O,if_neg O,if_neg O,if_neg O,if_neg O]
 ·have Jh:=d 13 O
  refine sh (P:=λ_ b=>b.bD σ=b) A A A ?_ ?_ A A A (λ_=>rfl) i
  ·show bq.cells [.map (some (σ 13))] .ro=_
   rw[Jh];rfl
  ·show bq.cells (bt.bD σ dz) (.ex 20)=_
   rw[nN];rfl
def aC.J0(f:FuncId)(spec:{R:Type}->RI R->List AV->(AV->R)->R)
  (ok:∀{R:Type}(X:RI R)(sem:R->Prop),X.Ok sem->∀args c,sem (spec X args c)->∃a,sem (c a)/\(∀σ,a.bD σ=a)/\(∀σ,bt.bD σ args=args)/\af PP II f args Hm (.ret a Hm)):aC PP II where
 f:=f
 spec X args H c _:=jK X 100000 args H λb H'=>X.ak (ye H') (spec X b λa=>c a H')
 ok X sem hX args H c kp h:=by
  obtain⟨b,H',d,i⟩:=gC hX _ _ _ _ h
  obtain⟨j,d⟩:=hX.ak _ _ d
  obtain⟨a,k1,k2,l,m⟩:=ok X sem hX _ _ d
  exact⟨.ret a H',k1,(m.J0 j k2 l).nI i⟩
end
def Yj:List (aC PP II):=[Yh,YF,yM,j8,Aw,TY,Me,Cb,Cc,EA,WE,EI,SD,Aj,WC,bU]
def UU:List AV:=[.aw,.aw,.int z 1,.int z 0,.str [],.str [],.int z 0]
def W7(k:AV):Bool:=match k with| .aw=>true| .az 0 1 _=>true|_=>false
def Rv(lo v:List UInt8)(a:AV):Bool:=match a with
 | .bK [.az 1 9 f,.int z 0]=>match f 0 with
  |[k,.str s0,.str s1,.str s2,.str b,.str c,.str d,.str e,.str g]=>W7 k&&c_ s0 lo&&c_ s1 [49]&&c_ s2 lo&&c_ b [49]&&c_ c v&&c_ d [49]&&c_ e v&&c_ g [49]
  |_=>false
 |_=>false
def OA(lo v:List UInt8):AV:=.bK [.az 1 9 (λ_=>[.az 0 1 (λ_=>[]),.str lo,.str [49],.str lo,.str [49],.str v,.str [49],.str v,.str [49]]),.int z 0]
def Hw{lo v:List UInt8}{a:AV}(h:Rv lo v a=true)(σ:Nat->Nat):n_ σ a (OA lo v):=by
 unfold Rv at h
 split at h
 ·rename_i f
  split at h
  ·rename_i k s0 q r s t u w x e
   simp only[bf]at h
   obtain⟨⟨⟨⟨⟨⟨⟨⟨h,b⟩,c⟩,d⟩,g⟩,l⟩,m⟩,n⟩,o⟩:=h
   refine⟨⟨rfl,rfl,λi hi=>?_⟩,⟨rfl,rfl⟩,trivial⟩
   have:i=0:=O
   subst this
   rw[e]
   refine⟨?_,eq_of_beq (α:=List UInt8) b,eq_of_beq (α:=List UInt8) c,eq_of_beq (α:=List UInt8) d,eq_of_beq (α:=List UInt8) g,eq_of_beq (α:=List UInt8) l,eq_of_beq (α:=List UInt8) m,eq_of_beq (α:=List UInt8) n,eq_of_beq (α:=List UInt8) o,trivial⟩
   unfold W7 at h
   split at h
   ·exact(rfl:0=0)
   ·exact⟨rfl,rfl,λj p=>absurd p (lZ j)⟩
   ·cases h
  ·cases h
 ·cases h
def Bm{ks:List (aC PP II)}{f:FuncId}{args:List AV}{a:AV}(t:AV->Bool)(ht:∀x,t x=true->∀σ,n_ σ x a)
  (h:∀R:Bool->Bool->Prop,jE ks (mG PP II []) 1000 f args Hm (λx H=>qC RI.jY 100000 x H λd H2=>R (ye H2) (t d)) (λ_ _=>False)=R (true&&FY (Hm.get 0) (Hm.get 1) (Hm.get 2) (Hm.get 3) (Hm.get 6) (Hm.get 9) (Hm.get 10) (Hm.get 13)) true):af PP II f args Hm (.ret a Hm):=by
 have:=h λb c=>aa b (c=true)
 obtain⟨o,e,g⟩:=fJ iw ks (bm PP II []) 1000 f args Hm (λx H=>qC RI.jY 100000 x H λd H2=>aa (ye H2) (t d=true)) (λ_ _=>False) (by
  rw[this]
  exact Ze (Bl A A A A A A A A) A)
 cases o with
 |ret b H1=>
  obtain⟨x,H2,k1,k2⟩:=lm RI.dJ _ _ _ _ e
  obtain⟨i,k1⟩:=Zk k1
  exact(g.vW k2).le (ky.of [] (tA i) (ht _ k1 _))
 |qt a H1=>exact e.elim
def Bn(i:Nat):List AV:=aF (ur i)++[.str [49],.str [50]]
set_option maxHeartbeats 0 in
def F0:af PP II 23 [.agg UU,.az 3 12 Bn] Hm (.ret (OA [54] [49,56]) Hm):=
 Bm (ks:=Yj) (Rv [54] [49,56]) (λ_ h=>Hw h) λR=>U
def W9(i:Nat):Int:=match i with|3=>1|4=>2|_=>0
def S6(i:Nat):Int:=match i with|4=>1|5=>2|_=>0
def OB(_:Nat):List AV:=[.int z 0,.int z 0,.int z 0,.int z 0,.int z 3,.int z 27,.int z 62,.int z 7,.az 44 1 (ae W9),.az 44 1 (ae S6)]
def Hx(n:Nat)(f:Nat->List AV)(W:Nat->Int):Bool:=bA n f&&(m_ n).all λi=>b_ (aM f i=W i)
def Dx{n:Nat}{f:Nat->List AV}{W:Nat->Int}(h:Hx n f W=true)(σ:Nat->Nat):n_ σ (.az n 1 f) (.az n 1 (ae W)):=by
 unfold Hx at h
 rw[bf]at h
 refine⟨rfl,rfl,λi hi=>?_⟩
 have e:=pT (List.all_eq_true.1 h.2 i (List.mem_range.2 hi))
 rw[kZ h.1 i hi]
 show bt.le σ [.int z (aM f i)] [.int z (W i)]
 rw[e]
 exact⟨⟨rfl,rfl⟩,trivial⟩
def Bo(f:Nat->List AV):Bool:=match f 0 with
 |[.int z a,.int z b,.int z c,.int z d,.int z n,.int z l,.int z h,.int z y,.az 44 1 r,.az 44 1 s]=>b_ (a=0)&&b_ (b=0)&&b_ (c=0)&&b_ (d=0)&&b_ (n=3)&&b_ (l=27)&&b_ (h=62)&&b_ (y=7)&&Hx 44 r W9&&Hx 44 s S6
 |_=>false
def zn{f:Nat->List AV}(h:Bo f=true)(σ:Nat->Nat):n_ σ (.az 1 10 f) (.az 1 10 OB):=by
 unfold Bo at h
 split at h
 ·rename_i a b c d n l g y r s e
  simp only[bf,bn]at h
  obtain⟨⟨⟨⟨⟨⟨⟨⟨⟨rfl,rfl⟩,rfl⟩,rfl⟩,rfl⟩,rfl⟩,rfl⟩,rfl⟩,j⟩,k⟩:=h
  refine⟨rfl,rfl,λi hi=>?_⟩
  have:i=0:=O
  subst this
  rw[e]
  exact⟨⟨rfl,rfl⟩,⟨rfl,rfl⟩,⟨rfl,rfl⟩,⟨rfl,rfl⟩,⟨rfl,rfl⟩,⟨rfl,rfl⟩,⟨rfl,rfl⟩,⟨rfl,rfl⟩,Dx j σ,Dx k σ,trivial⟩
 ·cases h
def UW(a:AV):Bool:=match a with
 | .bK [.agg [.az 1 10 f],.int z 0]=>Bo f
 |_=>false
def UX:AV:=.bK [.agg [.az 1 10 OB],.int z 0]
def Rw{a:AV}(h:UW a=true)(σ:Nat->Nat):n_ σ a UX:=by
 unfold UW at h
 split at h
 ·exact⟨⟨zn h σ,trivial⟩,⟨rfl,rfl⟩,trivial⟩
 ·cases h
set_option maxHeartbeats 0 in
def Rx:af PP II 27 [jz 3 ur] Hm (.ret UX Hm):=
 Bm (ks:=Yj) UW (λ_ h=>Rw h) λR=>U
set_option maxHeartbeats 0 in
def Dy:af PP II 28 [.agg UU,.agg [.az 1 10 OB]] Hm (.ret (OA [51] [48]) Hm):=
 Bm (ks:=Yj) (Rv [51] [48]) (λ_ h=>Hw h) λR=>U
def Hy(cs:List AV):Bool:=match cs with
 |[.aw,.aw,.int z a,.int z f,.str nu,.str de,.int z t]=>b_ (a=1)&&b_ (f=0)&&c_ nu []&&c_ de []&&b_ (t=0)
 |_=>false
def Dz{cs:List AV}(h:Hy cs=true):cs=UU:=by
 unfold Hy at h
 split at h
 ·simp only[bf,bn]at h
  obtain⟨⟨⟨⟨rfl,rfl⟩,a⟩,b⟩,rfl⟩:=h
  cases eq_of_beq (α:=List UInt8) a
  cases eq_of_beq (α:=List UInt8) b
  rfl
 ·cases h
def xx(f:Nat->List AV)(i:Nat):Bool:=match f i with
 |[.int z a0,.int z a1,.int z a2,.int z a3,.int z a4,.int z a5,.int z a,.int z b,.int z c,.int z a9,.str n,.str d]=>b_ ((⟨a0,a1,a2,a3,a4,a5,a,b,c,a9⟩:ay)=ur i)&&c_ n [49]&&c_ d [50]
 |_=>false
def tB{f:Nat->List AV}{i:Nat}(h:xx f i=true):bt.le (λl=>l) (f i) (Bn i):=by
 unfold xx at h
 split at h
 ·rename_i a0 a1 a2 g a4 j k m o p n d e
  simp only[bf,bn]at h
  obtain⟨⟨a,b⟩,c⟩:=h
  cases eq_of_beq (α:=List UInt8) b
  cases eq_of_beq (α:=List UInt8) c
  rw[e]
  unfold Bn
  rw[<-a]
  exact⟨⟨rfl,rfl⟩,⟨rfl,rfl⟩,⟨rfl,rfl⟩,⟨rfl,rfl⟩,⟨rfl,rfl⟩,⟨rfl,rfl⟩,⟨rfl,rfl⟩,⟨rfl,rfl⟩,⟨rfl,rfl⟩,⟨rfl,rfl⟩,rfl,rfl,trivial⟩
 ·cases h
def zo:aC PP II:=aC.J0 23
 (λX args a=>match args with
  |[.agg cs,.az 3 12 f]=>X.ak (Hy cs&&xx f 0&&xx f 1&&xx f 2) (a (OA [54] [49,56]))
  |_=>X.fail)
 λX sem hX args a h=>by
  split at h
  ·rename_i cs f
   obtain⟨b,c⟩:=hX.ak _ _ h
   simp only[bf]at b
   obtain⟨⟨⟨d,e⟩,g⟩,j⟩:=b
   cases Dz d
   refine⟨_,c,λ_=>rfl,λ_=>rfl,af.dA F0 ⟨trivial,trivial,⟨rfl,rfl⟩,⟨rfl,rfl⟩,rfl,rfl,⟨rfl,rfl⟩,trivial⟩ ⟨rfl,rfl,λi hi=>?_⟩⟩
   match i,hi with
   |0,_=>exact tB e
   |1,_=>exact tB g
   |2,_=>exact tB j
   |i+3,h=>exact absurd h O
  ·exact zR
def OC:aC PP II:=aC.J0 27
 (λX args a=>match args with
  |[.az 3 10 f]=>X.ak (Vr f) (a UX)
  |_=>X.fail)
 λX sem hX args a h=>by
  split at h
  ·obtain⟨b,c⟩:=hX.ak _ _ h
   exact⟨_,c,λ_=>rfl,λ_=>rfl,Rx.dq ⟨Bk b,trivial⟩⟩
  ·exact zR
def xy:aC PP II:=aC.J0 28
 (λX args b=>match args with
  |[.agg cs,.agg [.az 1 10 f]]=>X.ak (Hy cs&&Bo f) (b (OA [51] [48]))
  |_=>X.fail)
 λX sem hX args b h=>by
  split at h
  ·rename_i cs f
   obtain⟨a,c⟩:=hX.ak _ _ h
   simp only[bf]at a
   cases Dz a.1
   exact⟨_,c,λ_=>rfl,λ_=>rfl,af.dA Dy ⟨trivial,trivial,⟨rfl,rfl⟩,⟨rfl,rfl⟩,rfl,rfl,⟨rfl,rfl⟩,trivial⟩ ⟨zn a.2 _,trivial⟩⟩
  ·exact zR
def Xa:Bool:=true&&FY (Hm.get 0) (Hm.get 1) (Hm.get 2) (Hm.get 3) (Hm.get 6) (Hm.get 9) (Hm.get 10) (Hm.get 13)
def OD(R:Bool->AV->Prop):jE [S5,Hu,W4,zo,OC,xy] (mG PP II []) 1000 10 [] Hm (λa H=>R (ye H) a) (λ_ _=>False)=aa Xa (aa Xa (aa Xa (R Xa (.bool true)))):=U
def Ry:af PP II 10 [] Hm (.ret (.bool true) Hm):=by
 have ht:Xa=true:=Bl A A A A A A A A
 obtain⟨o,c,d⟩:=fJ iw [S5,Hu,W4,zo,OC,xy] (bm PP II []) 1000 10 [] Hm (λa H=>aa (ye H) (a= .bool true)) (λ_ _=>False) (by
  rw[OD λb a=>aa b (a= .bool true)]
  exact Ze ht (Ze ht (Ze ht (Ze ht A))))
 cases o with
 |ret a H1=>
  obtain⟨e,k1⟩:=Zk c
  have k1:a= .bool true:=k1
  subst k1
  exact d.le (ky.of [] (tA e) A)
 |qt a H1=>exact c.elim
def S7:aC PP II:=aC.J0 10
 (λX args a=>match args with
  |[]=>a (.bool true)
  |_=>X.fail)
 λX sem hX args a h=>by
  split at h
  ·exact⟨_,h,λ_=>rfl,λ_=>rfl,Ry⟩
  ·exact zR
section
def J1(m:Nat)(C:Nat->Nat->Int)(agg g top:Int)(Q:AV->Prop):(kb [GU] [] 11 [.agg [.int z agg,.az m 3 (au C),.int z g,.int z top]] Q)=(aa (b_ (0<=if 3<B m then 3 else B m)&&b_ ((if 3<B m then 3 else B m)<=B m)) (aa ((aI 3 (a_ ((if 3<B m then 3 else B m)-0)) λi=>au C (0+i))&&aN z agg&&aN z g&&aN z top) (Q (AV.agg [l_ (Query.nw (cJ agg (a_ ((if 3<B m then 3 else B m)-0)) (bG λi=>au C (0+i)) g top)) 3 (au (Query.C (cJ agg (a_ ((if 3<B m then 3 else B m)-0)) (bG λi=>au C (0+i)) g top))),l_ (Query.ng (cJ agg (a_ ((if 3<B m then 3 else B m)-0)) (bG λi=>au C (0+i)) g top)) 1 (aR (Query.G (cJ agg (a_ ((if 3<B m then 3 else B m)-0)) (bG λi=>au C (0+i)) g top))),k_ z (Query.a (cJ agg (a_ ((if 3<B m then 3 else B m)-0)) (bG λi=>au C (0+i)) g top)),k_ z (Query.fl (cJ agg (a_ ((if 3<B m then 3 else B m)-0)) (bG λi=>au C (0+i)) g top)),AV.str (Query.nu (cJ agg (a_ ((if 3<B m then 3 else B m)-0)) (bG λi=>au C (0+i)) g top)),AV.str (Query.de (cJ agg (a_ ((if 3<B m then 3 else B m)-0)) (bG λi=>au C (0+i)) g top)),k_ z (Query.top (cJ agg (a_ ((if 3<B m then 3 else B m)-0)) (bG λi=>au C (0+i)) g top))])))):=U
def J2{m:Nat}{C:Nat->Nat->Int}{agg g top:Int}(h:aI 3 m (au C)=true)(ha:aN z agg=true)(a:aN z g=true)(ht:aN z top=true):
  af PP II 11 [.agg [.int z agg,.az m 3 (au C),.int z g,.int z top]] (d_ 12) (.ret (.agg (aY (cJ agg (min m 3) (bG (au C)) g top))) (d_ 12)):=by
 refine bY (ks:=[GU]) (T:=[]) (λσ=>iY _ σ) ?_
 rw[J1]
 have e:B m=(m:Int):=rfl
 have b:a_ ((if 3<B m then 3 else B m)-0)=min m 3:=by split<;>omega
 have c:(λi=>au C (0+i))=au C:=funext λi=>by rw[e_]
 rw[b,c,ha,a,ht]
 have d:aI 3 (min m 3) (au C)=true:=List.all_eq_true.2 λi hi=>List.all_eq_true.1 h i (List.mem_range.2 (by have:=List.mem_range.1 hi;omega))
 rw[d]
 exact cC _ _ (by split<;>simp only[bf,bn]<;>omega) (cC _ _ A A)
open Classical in
def tC(q:Query)(agg:Int)(m:Nat)(f:Nat->List AV)(g top:Int):Bool:=b_ (cJ agg (min m 3) (bG f) g top=q)
open Classical in
def J3{q:Query}{agg:Int}{m:Nat}{f:Nat->List AV}{g top:Int}(h:cJ agg (min m 3) (bG f) g top=q):tC q agg m f g top=true:=by
 unfold tC
 exact bW h
open Classical in
def J4{q:Query}{agg:Int}{m:Nat}{f:Nat->List AV}{g top:Int}(h:tC q agg m f g top=true):cJ agg (min m 3) (bG f) g top=q:=by
 unfold tC at h
 exact pT h
def OE(q:Query):aC PP II:=aC.pure 11
 (λX args c=>match args with
  |[.agg [.int z agg,.az m 3 f,.int z g,.int z top]]=>X.ak (aI 3 m f&&aN z agg&&aN z g&&aN z top&&tC q agg m f g top) (c (.agg (aY q)))
  |_=>X.fail)
 λX sem hX args c h=>by
  split at h
  ·rename_i agg m f g top
   obtain⟨d,l⟩:=hX.ak _ _ h
   simp only[bf]at d
   obtain⟨⟨⟨⟨a1,a2⟩,n⟩,a4⟩,o⟩:=d
   have e:=J4 o
   have k:∀j,j<m->f j=au (bG f) j:=λj a=>(nP (c7 a1 a)).1
   have b:aI 3 m (au (bG f))=true:=List.all_eq_true.2 λj a=>by rw[<-k j (List.mem_range.1 a)];exact c7 a1 (List.mem_range.1 a)
   have:=J2 (agg:=agg) (g:=g) (top:=top) b a2 n a4
   have p:cJ agg (min m 3) (bG (au (bG f))) g top=q:=by
    rw[<-e]
    unfold cJ
    rw[SK]
   rw[p]at this
   refine⟨_,l,λ_=>rfl,λ_=>rfl,this.dq ⟨⟨⟨rfl,rfl⟩,⟨rfl,rfl,λi hi=>?_⟩,⟨rfl,rfl⟩,⟨rfl,rfl⟩,trivial⟩,trivial⟩⟩
   rw[k i hi];exact jq (bG f) _ i
  ·exact zR
open Classical in
def zp(k:Nat)(F:Nat->ay)(n:Nat)(f:Nat->List AV):Bool:=b_ (mZ n (bG f)=k/\oW n (bG f)=F)
open Classical in
def OF{k:Nat}{F:Nat->ay}{n:Nat}{f:Nat->List AV}(h:zp k F n f=true):mZ n (bG f)=k/\oW n (bG f)=F:=by
 unfold zp at h
 exact pT h
open Classical in
def OG{k:Nat}{F:Nat->ay}{n:Nat}{f:Nat->List AV}(h:mZ n (bG f)=k)(a:oW n (bG f)=F):zp k F n f=true:=by
 unfold zp
 exact bW ⟨h,a⟩
end
end
end Go.Sx
