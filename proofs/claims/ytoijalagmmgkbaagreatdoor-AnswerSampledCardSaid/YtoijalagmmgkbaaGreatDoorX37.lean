/- Lemmas, part 37. -/
import Derived.Test.YtoijalagmmgkbaaGreatDoorX36
set_option linter.all false
set_option linter.defProp false
section
set_option maxRecDepth 1000000
namespace Go.Sx
open Go
def lH(a B:Nat->Int)(j:Int)(i:Nat):Int:=if(i:Int)<j then a i+B i else a i
theorem Dw(n)(a B)(hn:n<=1000000)(hA:∀i,i<n->aN .i64 (a i+B i)=true):eu PP II false (aD II 174 4001) 13 (Pd n B (lH a B) 0) (Pe n (λi=>a i+B i)):=by
 refine eu.wL [] (n:=n) A λj f Q hQ=>?_
 have go:∀(i:Int)(Q:Prop),i=(j:Int)->(j<n->Q)->kr [] [] 174 4001 13 (Pd n B (lH a B)) (λ_=>Pe n (λi=>a i+B i)) (λj=>j+1) Q i:=λi Q hi hQ=>by
  rw[Oy]
  have g:Int.ofNat n=(n:Int):=rfl
  have e1:Int.toNat i=j:=O
  rw[e1,Nat.zero_add]
  refine Zg (λh=>?_) λh=>?_
  ·have ha:(decide (0<=i)&&decide (i<Int.ofNat n))=true:=by simp only[bf,bn];omega
   have b:decide (j<n)=true:=Y
   have c:lH a B i j=a j:=by unfold lH;rw[if_neg O]
   rw[c]
   refine cC _ _ ha (cC _ _ b (cC _ _ ha (cC _ _ (hA j O) (cC _ _ ha (cC _ _ b (cC _ _ (aq O O) ?_))))))
   refine YG A ⟨λk d σ=>?_,YG A (YG A (Zf A (YG A ⟨bL _ _,Zf A (YG A ⟨bL _ _,hQ O⟩)⟩)))⟩
   show bt.le σ [.int .i64 (bif decide (k=j)then a j+B j else lH a B i k)] [.int .i64 (lH a B (i+1) k)]
   have:(bif decide (k=j)then a j+B j else lH a B i k)=lH a B (i+1) k:=by
    unfold lH
    by_cases e:k=j
    ·grind
    ·grind
   rw[this]
   exact⟨⟨rfl,rfl⟩,trivial⟩
  ·refine YG A ⟨λk d σ=>?_,YG A (YG A trivial)⟩
   show bt.le σ [.int .i64 (lH a B i k)] [.int .i64 (a k+B k)]
   have:lH a B i k=a k+B k:=by unfold lH;rw[if_pos O]
   rw[this]
   exact⟨⟨rfl,rfl⟩,trivial⟩
 grind
theorem UQ{n a B}(hn:n<=1000000)(hA:∀i,i<n->aN .i64 (a i+B i)=true):
  af PP II 174 [.ab n 1 (ae a),.ab n 1 (ae B),.fn 61 [] []] (AH.blank 12) (.ret (.ab n 1 (ae λi=>a i+B i)) (AH.blank 12)):=by
 refine bY (ks:=[]) (T:=[(4001,13,Pd n B (lH a B) 0,Pe n (λi=>a i+B i))]) (λσ=>⟨rfl,rfl,λi _=>zM _ _ _⟩) ?_
 rw[UP]
 have c:Int.ofNat n=(n:Int):=rfl
 have m:(if Int.ofNat n>Int.ofNat n then Int.ofNat n else Int.ofNat n)=Int.ofNat n:=by split<;>rfl
 have t:Int.toNat (Int.ofNat n)=n:=O
 rw[m,t,if_pos (dw n),Nat.zero_add]
 refine cC _ _ ZG (cC _ _ zA ⟨Dw n a B hn hA,?_⟩)
 refine YG A ⟨λk b σ=>?_,YG A (YG A (Zf A (YG A ⟨bL _ _,YG A ⟨bL _ _,cC _ _ ?_ ?_⟩⟩)))⟩
 ·show bt.le σ (bif Nat.ble 0 k&&Nat.blt k n then ae a (k-0)else [.int .i64 0]) (ae (lH a B 0) k)
  rw[eV b,Bool.and_true,kV (Nat.zero_le k),cond_true]
  show bt.le σ [.int .i64 (a k)] [.int .i64 (lH a B 0 k)]
  have:lH a B 0 k=a k:=by unfold lH;rw[if_neg O]
  rw[this]
  exact⟨⟨rfl,rfl⟩,trivial⟩
 all_goals simp
theorem Rs{n B}(hn:n<=1000000)(hA:∀i,i<n->aN .i64 (0+B i)=true):
  af PP II 174 [.aw,.ab n 1 (ae B),.fn 61 [] []] (AH.blank 12) (.ret (.ab n 1 (ae λi=>0+B i)) (AH.blank 12)):=by
 refine bY (ks:=[]) (T:=[(4001,13,Pd n B (lH (λ_=>0) B) 0,Pe n (λi=>0+B i))]) (λσ=>⟨rfl,rfl,λi _=>zM _ _ _⟩) ?_
 rw[Rq]
 have a:Int.ofNat n=(n:Int):=rfl
 have m:(if Int.ofNat n>0 then Int.ofNat n else 0)=Int.ofNat n:=by split<;>omega
 have t:Int.toNat (Int.ofNat n)=n:=O
 rw[m,t,if_pos (Nat.zero_le n),Nat.zero_add]
 refine cC _ _ ZG (cC _ _ (by rfl) ⟨Dw n (λ_=>0) B hn hA,?_⟩)
 refine YG A ⟨λk b σ=>?_,YG A (YG A (Zf A (YG A ⟨bL _ _,YG A ⟨bL _ _,cC _ _ ?_ ?_⟩⟩)))⟩
 ·show bt.le σ (bif Nat.ble 0 k&&Nat.blt k 0 then []else [.int .i64 0]) (ae (lH (λ_=>0) B 0) k)
  rw[js (lZ k),Bool.and_false,cond_false]
  show bt.le σ [.int .i64 0] [.int .i64 (lH (λ_=>0) B 0 k)]
  have:lH (λ_=>0) B 0 k=0:=by unfold lH;rw[if_neg O]
  rw[this]
  exact⟨⟨rfl,rfl⟩,trivial⟩
 all_goals simp
noncomputable def Yh:aC PP II:=aC.pure 174
 (λX args b=>match args with
  |[.ab n 1 f,.ab m 1 g,.fn 61 [] []]=>X.bq (bA n f&&bA m g&&Nat.beq m n&&Nat.ble n 1000000&&(List.range n).all λi=>aN .i64 (aM f i+aM g i)) (b (.ab n 1 (ae λi=>aM f i+aM g i)))
  |[.aw,.ab m 1 g,.fn 61 [] []]=>X.bq (bA m g&&Nat.ble m 1000000&&(List.range m).all λi=>aN .i64 (0+aM g i)) (b (.ab m 1 (ae λi=>0+aM g i)))
  |_=>X.fail)
 λX sem hX args b h=>by
  split at h
  ·obtain⟨a,c⟩:=hX.bq _ _ h
   simp only[bf]at a
   obtain⟨⟨⟨⟨a1,a2⟩,d⟩,e⟩,j⟩:=a
   cases dE d
   exact⟨_,c,λ_=>rfl,λ_=>rfl,af.nT (UQ ZD ZD) (cy a1) (cy a2) ⟨rfl,trivial,trivial⟩⟩
  ·obtain⟨a,c⟩:=hX.bq _ _ h
   simp only[bf]at a
   obtain⟨⟨a1,a2⟩,d⟩:=a
   exact⟨_,c,λ_=>rfl,λ_=>rfl,af.nT (Rs ZD ZD) trivial (cy a1) ⟨rfl,trivial,trivial⟩⟩
  ·exact zR
end Go.Sx
end
section
set_option maxRecDepth 1000000
namespace Go.Sx
open Go
def Vr(f:Nat->List AV):Bool:=fh 3 f&&decide (bP f 0=ur 0)&&decide (bP f 1=ur 1)&&decide (bP f 2=ur 2)
theorem Bk{f:Nat->List AV}(h:Vr f=true):AV.le (λl=>l) (.ab 3 10 f) (vo 3 ur):=by
 unfold Vr at h
 simp only[bf,bn]at h
 obtain⟨⟨⟨a,b⟩,c⟩,d⟩:=h
 have h:=fq a
 obtain⟨e1,e,k⟩:=h
 refine⟨rfl,rfl,λi hi=>?_⟩
 have k:=k i hi
 match i,hi with
 |0,_=>show bt.le _ (f 0) (eD (ur 0));rw[<-b];exact k
 |1,_=>show bt.le _ (f 1) (eD (ur 1));rw[<-c];exact k
 |2,_=>show bt.le _ (f 2) (eD (ur 2));rw[<-d];exact k
 |i+3,h=>exact absurd h O
def W3(w:AV)(q:Query):Bool:=match w with
 | .aw=>Nat.beq q.nw 0
 | .ab 1 3 g=>Nat.beq q.nw 1&&(match g 0 with|[.int .i64 x,.int .i64 y,.int .i64 a]=>decide (x=q.C 0 0)&&decide (y=q.C 0 1)&&decide (a=q.C 0 2)|_=>false)
 |_=>false
theorem UR{w:AV}{q:Query}(h:W3 w q=true):AV.le (λl=>l) w (.ab q.nw 3 (au q.C))/\∀σ,AV.bD σ w=w:=by
 unfold W3 at h
 split at h
 ·exact⟨dE h,λ_=>rfl⟩
 ·rename_i g
  rw[bf]at h
  obtain⟨c,b⟩:=h
  have c:=dE c
  refine⟨⟨c.symm,rfl,λi hi=>?_⟩,λ_=>rfl⟩
  have:i=0:=O
  subst this
  split at b
  ·rename_i x y a e
   simp only[bf,bn]at b
   rw[e,b.1.1,b.1.2,b.2]
   exact⟨⟨rfl,rfl⟩,⟨rfl,rfl⟩,⟨rfl,rfl⟩,trivial⟩
  ·cases b
 ·cases h
theorem Rt:af PP II 13 [.agg [.aw,.aw,.int .i64 0,.int .i64 0,.str [],.str [],.int .i64 0],vo 3 ur] HR (.ret (.qP [.aw,.int .i64 200]) HR):=by
 refine qh (ks:=[]) (T:=[]) ?_
 have:∀Q:AV->Prop,kq [] [] 13 [.agg [.aw,.aw,.int .i64 0,.int .i64 0,.str [],.str [],.int .i64 0],vo 3 ur] Q=Q (.qP [.aw,.int .i64 200]):=λQ=>U
 rw[this]
 exactλσ=>⟨trivial,⟨rfl,rfl⟩,trivial⟩
noncomputable def S5:aC PP II:=aC.s9 13
 (λX args d=>match args with
  |[.agg [w,.aw,.int .i64 a,.int .i64 fl,.str nu,.str de,.int .i64 t],.ab 3 10 f]=>match decide (a=0)with
   |true=>X.bq (W3 w (zm 0 0 0 0 [] [])&&decide (fl=0)&&List.beq nu []&&List.beq de []&&decide (t=0)&&Vr f) (d (.qP [.aw,.int .i64 200]))
   |false=>X.bq (W3 w (oX a fl).1&&decide (a=(oX a fl).1.a)&&decide (fl=(oX a fl).1.fl)&&List.beq nu (oX a fl).1.nu&&List.beq de (oX a fl).1.de&&decide (t=(oX a fl).1.top)&&Vr f) (d (Dv (oX a fl).2.1 (oX a fl).2.2))
  |_=>X.fail)
 λX sem hX args d h=>by
  split at h
  ·rename_i w a fl nu de t f
   split at h
   ·rename_i ha
    obtain⟨c,e⟩:=hX.bq _ _ h
    simp only[bf,bn]at c ha
    obtain⟨⟨⟨⟨⟨b,g⟩,i⟩,j⟩,k⟩,l⟩:=c
    subst ha g k
    cases eq_of_beq (α:=List UInt8) i
    cases eq_of_beq (α:=List UInt8) j
    have m:w= .aw:=by
     unfold W3 at b
     split at b
     ·rfl
     ·rw[bf]at b;cases b.1
     ·cases b
    subst m
    exact⟨_,e,λ_=>rfl,λ_=>rfl,af.dA Rt ⟨trivial,trivial,⟨rfl,rfl⟩,⟨rfl,rfl⟩,rfl,rfl,⟨rfl,rfl⟩,trivial⟩ (Bk l)⟩
   ·obtain⟨c,e⟩:=hX.bq _ _ h
    simp only[bf,bn]at c
    obtain⟨⟨⟨⟨⟨⟨b,g⟩,i⟩,j⟩,k⟩,l⟩,n⟩:=c
    obtain⟨o,p⟩:=UR b
    refine⟨_,e,λ_=>rfl,λσ=>?_,af.dA (UO a fl) ⟨o,(S3 a fl).2.2,⟨rfl,g⟩,⟨rfl,i⟩,eq_of_beq (α:=List UInt8) j,eq_of_beq (α:=List UInt8) k,⟨rfl,l⟩,trivial⟩ (Bk n)⟩
    show [AV.agg [AV.bD σ w,.aw,.int .i64 a,.int .i64 fl,.str nu,.str de,.int .i64 t],AV.ab 3 10 f]=_
    rw[p]
  ·exact zR
def Oz(n d:Int):Bool:=(decide (d=1)&&[(0:Int),1,2,3,6,7,10,11,12,18,20,21,27,36,62].contains n)||(decide (d=2)&&decide (n=1))
def Ru(n d:Int):AV:=.agg [.str (bu n.toNat),.str (bu d.toNat)]
set_option maxHeartbeats 0 in
theorem US{n d:Int}(h:Oz n d=true):af PP II 34 [.int .i64 n,.int .i64 d] (AH.blank 12) (.ret (Ru n d) (AH.blank 12)):=by
 have go:∀{n d:Int},(∀Q:AV->Prop,kb [] [] 34 [.int .i64 n,.int .i64 d] Q=Q (Ru n d))->af PP II 34 [.int .i64 n,.int .i64 d] (AH.blank 12) (.ret (Ru n d) (AH.blank 12)):=λ{n d} e=>by
  refine bY (ks:=[]) (T:=[]) (λ_=>⟨rfl,rfl,trivial⟩) ?_
  rw[e]
 unfold Oz at h
 simp only[Bool.or_eq_true,bf,bn,List.contains_iff_mem,List.mem_cons,List.not_mem_nil,or_false]at h
 rcases h with⟨rfl,h⟩|⟨rfl,rfl⟩
 ·rcases h with rfl|rfl|rfl|rfl|rfl|rfl|rfl|rfl|rfl|rfl|rfl|rfl|rfl|rfl|rfl
  all_goals exact go λQ=>by as_aux_lemma=>kernel_rfl
 ·exact go λQ=>by as_aux_lemma=>kernel_rfl
noncomputable def W4:aC PP II:=aC.pure 34
 (λX args a=>match args with
  |[.int .i64 n,.int .i64 d]=>X.bq (Oz n d) (a (Ru n d))
  |_=>X.fail)
 λX sem hX args a h=>by
  split at h
  ·obtain⟨b,c⟩:=hX.bq _ _ h
   exact⟨_,c,λ_=>rfl,λ_=>rfl,US b⟩
  ·exact zR
end Go.Sx
end
section
set_option maxRecDepth 1000000
namespace Go.Sx
open Go
noncomputable def Yj:List (aC PP II):=[Yh,YF,yM,j8,Aw,TY,Me,Cb,Cc,EA,WE,EI,SD,Aj,WC,bU]
def UU:List AV:=[.aw,.aw,.int .i64 1,.int .i64 0,.str [],.str [],.int .i64 0]
def W7(k:AV):Bool:=match k with| .aw=>true| .ab 0 1 _=>true|_=>false
def Rv(lo v:List UInt8)(a:AV):Bool:=match a with
 | .qP [.ab 1 9 f,.int .i64 0]=>match f 0 with
  |[k,.str s0,.str s1,.str s2,.str b,.str c,.str d,.str e,.str g]=>W7 k&&List.beq s0 lo&&List.beq s1 [49]&&List.beq s2 lo&&List.beq b [49]&&List.beq c v&&List.beq d [49]&&List.beq e v&&List.beq g [49]
  |_=>false
 |_=>false
def OA(lo v:List UInt8):AV:=.qP [.ab 1 9 (λ_=>[.ab 0 1 (λ_=>[]),.str lo,.str [49],.str lo,.str [49],.str v,.str [49],.str v,.str [49]]),.int .i64 0]
theorem Hw{lo v:List UInt8}{a:AV}(h:Rv lo v a=true)(σ:Nat->Nat):AV.le σ a (OA lo v):=by
 unfold Rv at h
 split at h
 ·rename_i f
  split at h
  ·rename_i k s0 q r s t u w x e
   simp only[bf]at h
   obtain⟨⟨⟨⟨⟨⟨⟨⟨h,b⟩,c⟩,d⟩,g⟩,l⟩,m⟩,n⟩,o⟩:=h
   refine⟨⟨rfl,rfl,λi hi=>?_⟩,⟨rfl,rfl⟩,trivial⟩
   have:i=0:=O
   subst this
   rw[e]
   refine⟨?_,eq_of_beq (α:=List UInt8) b,eq_of_beq (α:=List UInt8) c,eq_of_beq (α:=List UInt8) d,eq_of_beq (α:=List UInt8) g,eq_of_beq (α:=List UInt8) l,eq_of_beq (α:=List UInt8) m,eq_of_beq (α:=List UInt8) n,eq_of_beq (α:=List UInt8) o,trivial⟩
   unfold W7 at h
   split at h
   ·exact(rfl:0=0)
   ·exact⟨rfl,rfl,λj p=>absurd p (lZ j)⟩
   ·cases h
  ·cases h
 ·cases h
theorem WS{ks:List (aC PP II)}{f:FuncId}{args:List AV}{a:AV}(t:AV->Bool)(ht:∀x,t x=true->∀σ,AV.le σ x a)
  (h:∀R:Bool->Bool->Prop,jE ks (mG PP II []) 1000 f args Hm (λx H=>qC RI.jY 100000 x H λd H2=>R (ye H2) (t d)) (λ_ _=>False)=R (true&&FY (Hm.get 0) (Hm.get 1) (Hm.get 2) (Hm.get 3) (Hm.get 6) (Hm.get 9) (Hm.get 10) (Hm.get 13)) true):af PP II f args Hm (.ret a Hm):=by
 have:=h λb c=>aa b (c=true)
 obtain⟨o,e,g⟩:=fJ Hs ks (bm PP II []) 1000 f args Hm (λx H=>qC RI.jY 100000 x H λd H2=>aa (ye H2) (t d=true)) (λ_ _=>False) (by
  rw[this]
  exact Ze (Bl A A A A A A A A) A)
 cases o with
 |ret b H1=>
  obtain⟨x,H2,k1,k2⟩:=lm RI.dJ _ _ _ _ e
  obtain⟨k0,k1⟩:=Zk k1
  exact(g.vW k2).le (ky.of [] (tA k0) (ht _ k1 _))
 |qt a H1=>exact e.elim
def Bn(i:Nat):List AV:=eD (ur i)++[.str [49],.str [50]]
set_option maxHeartbeats 0 in
theorem F0:af PP II 23 [.agg UU,.ab 3 12 Bn] Hm (.ret (OA [54] [49,56]) Hm):=
 WS (ks:=Yj) (Rv [54] [49,56]) (λ_ h=>Hw h) λR=>U
def W9(i:Nat):Int:=match i with|3=>1|4=>2|_=>0
def S6(i:Nat):Int:=match i with|4=>1|5=>2|_=>0
def OB(_:Nat):List AV:=[.int .i64 0,.int .i64 0,.int .i64 0,.int .i64 0,.int .i64 3,.int .i64 27,.int .i64 62,.int .i64 7,.ab 44 1 (ae W9),.ab 44 1 (ae S6)]
def Hx(n:Nat)(f:Nat->List AV)(W:Nat->Int):Bool:=bA n f&&(List.range n).all λi=>decide (aM f i=W i)
theorem Dx{n:Nat}{f:Nat->List AV}{W:Nat->Int}(h:Hx n f W=true)(σ:Nat->Nat):AV.le σ (.ab n 1 f) (.ab n 1 (ae W)):=by
 unfold Hx at h
 rw[bf]at h
 refine⟨rfl,rfl,λi hi=>?_⟩
 have e:=pT (List.all_eq_true.1 h.2 i (List.mem_range.2 hi))
 rw[kZ h.1 i hi]
 show bt.le σ [.int .i64 (aM f i)] [.int .i64 (W i)]
 rw[e]
 exact⟨⟨rfl,rfl⟩,trivial⟩
def Bo(f:Nat->List AV):Bool:=match f 0 with
 |[.int .i64 a,.int .i64 b,.int .i64 c,.int .i64 d,.int .i64 n,.int .i64 l,.int .i64 h,.int .i64 y,.ab 44 1 r,.ab 44 1 s]=>decide (a=0)&&decide (b=0)&&decide (c=0)&&decide (d=0)&&decide (n=3)&&decide (l=27)&&decide (h=62)&&decide (y=7)&&Hx 44 r W9&&Hx 44 s S6
 |_=>false
theorem zn{f:Nat->List AV}(h:Bo f=true)(σ:Nat->Nat):AV.le σ (.ab 1 10 f) (.ab 1 10 OB):=by
 unfold Bo at h
 split at h
 ·rename_i a b c d n l g y r s e
  simp only[bf,bn]at h
  obtain⟨⟨⟨⟨⟨⟨⟨⟨⟨rfl,rfl⟩,rfl⟩,rfl⟩,rfl⟩,rfl⟩,rfl⟩,rfl⟩,j⟩,k⟩:=h
  refine⟨rfl,rfl,λi hi=>?_⟩
  have:i=0:=O
  subst this
  rw[e]
  exact⟨⟨rfl,rfl⟩,⟨rfl,rfl⟩,⟨rfl,rfl⟩,⟨rfl,rfl⟩,⟨rfl,rfl⟩,⟨rfl,rfl⟩,⟨rfl,rfl⟩,⟨rfl,rfl⟩,Dx j σ,Dx k σ,trivial⟩
 ·cases h
def UW(a:AV):Bool:=match a with
 | .qP [.agg [.ab 1 10 f],.int .i64 0]=>Bo f
 |_=>false
def UX:AV:=.qP [.agg [.ab 1 10 OB],.int .i64 0]
theorem Rw{a:AV}(h:UW a=true)(σ:Nat->Nat):AV.le σ a UX:=by
 unfold UW at h
 split at h
 ·exact⟨⟨zn h σ,trivial⟩,⟨rfl,rfl⟩,trivial⟩
 ·cases h
set_option maxHeartbeats 0 in
theorem Rx:af PP II 27 [vo 3 ur] Hm (.ret UX Hm):=
 WS (ks:=Yj) UW (λ_ h=>Rw h) λR=>U
set_option maxHeartbeats 0 in
theorem Dy:af PP II 28 [.agg UU,.agg [.ab 1 10 OB]] Hm (.ret (OA [51] [48]) Hm):=
 WS (ks:=Yj) (Rv [51] [48]) (λ_ h=>Hw h) λR=>U
set_option maxHeartbeats 0 in
theorem Ox:af PP II 14 [.agg [.aw,.aw,.int .i64 2,.int .i64 8,.str [],.str [],.int .i64 0],vo 3 ur,.ab 3 1 (ae λi=>11+(i:Int))] Hm (.ret (OA [51,54] [48]) Hm):=
 WS (ks:=Yj) (Rv [51,54] [48]) (λ_ h=>Hw h) λR=>U
noncomputable def Hu:aC PP II:=aC.J0 14
 (λX args a=>match args with
  |[.agg [.aw,.aw,.int .i64 2,.int .i64 8,.str [],.str [],.int .i64 0],.ab 3 10 f,.ab 3 1 g]=>X.bq (Vr f&&bA 3 g&&decide (aM g 0=11)&&decide (aM g 1=12)&&decide (aM g 2=13)) (a (OA [51,54] [48]))
  |_=>X.fail)
 λX sem hX args a h=>by
  split at h
  ·rename_i f g
   obtain⟨b,c⟩:=hX.bq _ _ h
   simp only[bf,bn]at b
   obtain⟨⟨⟨⟨d,e⟩,j⟩,l⟩,m⟩:=b
   refine⟨_,c,λ_=>rfl,λ_=>rfl,af.nT Ox ⟨trivial,trivial,⟨rfl,rfl⟩,⟨rfl,rfl⟩,rfl,rfl,⟨rfl,rfl⟩,trivial⟩ (Bk d) ?_⟩
   obtain⟨_,_,k⟩:=cy e
   refine⟨rfl,rfl,λi hi=>?_⟩
   have k:=k i hi
   match i,hi with
   |0,_=>show bt.le _ (g 0) [.int .i64 11];rw[<-j];exact k
   |1,_=>show bt.le _ (g 1) [.int .i64 12];rw[<-l];exact k
   |2,_=>show bt.le _ (g 2) [.int .i64 13];rw[<-m];exact k
   |i+3,h=>exact absurd h O
  ·exact zR
end Go.Sx
end
section
set_option maxRecDepth 1000000
namespace Go.Sx
open Go
def Hy(cs:List AV):Bool:=match cs with
 |[.aw,.aw,.int .i64 a,.int .i64 f,.str nu,.str de,.int .i64 t]=>decide (a=1)&&decide (f=0)&&List.beq nu []&&List.beq de []&&decide (t=0)
 |_=>false
theorem Dz{cs}(h:Hy cs=true):cs=UU:=by
 unfold Hy at h
 split at h
 ·simp only[bf,bn]at h
  obtain⟨⟨⟨⟨rfl,rfl⟩,a⟩,b⟩,rfl⟩:=h
  cases eq_of_beq (α:=List UInt8) a
  cases eq_of_beq (α:=List UInt8) b
  rfl
 ·cases h
def xx(f:Nat->List AV)(i:Nat):Bool:=match f i with
 |[.int .i64 a0,.int .i64 a1,.int .i64 a2,.int .i64 a3,.int .i64 a4,.int .i64 a5,.int .i64 a,.int .i64 b,.int .i64 c,.int .i64 a9,.str n,.str d]=>decide ((⟨a0,a1,a2,a3,a4,a5,a,b,c,a9⟩:ay)=ur i)&&List.beq n [49]&&List.beq d [50]
 |_=>false
theorem tB{f i}(h:xx f i=true):bt.le (λl=>l) (f i) (Bn i):=by
 unfold xx at h
 split at h
 ·rename_i a0 a1 a2 g j k m o p q n d e
  simp only[bf,bn]at h
  obtain⟨⟨a,b⟩,c⟩:=h
  cases eq_of_beq (α:=List UInt8) b
  cases eq_of_beq (α:=List UInt8) c
  rw[e]
  unfold Bn
  rw[<-a]
  exact⟨⟨rfl,rfl⟩,⟨rfl,rfl⟩,⟨rfl,rfl⟩,⟨rfl,rfl⟩,⟨rfl,rfl⟩,⟨rfl,rfl⟩,⟨rfl,rfl⟩,⟨rfl,rfl⟩,⟨rfl,rfl⟩,⟨rfl,rfl⟩,rfl,rfl,trivial⟩
 ·cases h
noncomputable def zo:aC PP II:=aC.J0 23
 (λX args a=>match args with
  |[.agg cs,.ab 3 12 f]=>X.bq (Hy cs&&xx f 0&&xx f 1&&xx f 2) (a (OA [54] [49,56]))
  |_=>X.fail)
 λX sem hX args a h=>by
  split at h
  ·rename_i cs f
   obtain⟨b,c⟩:=hX.bq _ _ h
   simp only[bf]at b
   obtain⟨⟨⟨d,e⟩,g⟩,j⟩:=b
   cases Dz d
   refine⟨_,c,λ_=>rfl,λ_=>rfl,af.dA F0 ⟨trivial,trivial,⟨rfl,rfl⟩,⟨rfl,rfl⟩,rfl,rfl,⟨rfl,rfl⟩,trivial⟩ ⟨rfl,rfl,λi hi=>?_⟩⟩
   match i,hi with
   |0,_=>exact tB e
   |1,_=>exact tB g
   |2,_=>exact tB j
   |i+3,h=>omega
  ·exact zR
noncomputable def OC:aC PP II:=aC.J0 27
 (λX args a=>match args with
  |[.ab 3 10 f]=>X.bq (Vr f) (a UX)
  |_=>X.fail)
 λX sem hX args a h=>by
  split at h
  ·obtain⟨b,c⟩:=hX.bq _ _ h
   exact⟨_,c,λ_=>rfl,λ_=>rfl,Rx.dq ⟨Bk b,trivial⟩⟩
  ·exact zR
noncomputable def xy:aC PP II:=aC.J0 28
 (λX args b=>match args with
  |[.agg cs,.agg [.ab 1 10 f]]=>X.bq (Hy cs&&Bo f) (b (OA [51] [48]))
  |_=>X.fail)
 λX sem hX args b h=>by
  split at h
  ·rename_i cs f
   obtain⟨a,c⟩:=hX.bq _ _ h
   simp only[bf]at a
   cases Dz a.1
   exact⟨_,c,λ_=>rfl,λ_=>rfl,af.dA Dy ⟨trivial,trivial,⟨rfl,rfl⟩,⟨rfl,rfl⟩,rfl,rfl,⟨rfl,rfl⟩,trivial⟩ ⟨zn a.2 _,trivial⟩⟩
  ·exact zR
noncomputable def Xa:Bool:=true&&FY (Hm.get 0) (Hm.get 1) (Hm.get 2) (Hm.get 3) (Hm.get 6) (Hm.get 9) (Hm.get 10) (Hm.get 13)
theorem OD(R:Bool->AV->Prop):jE [S5,Hu,W4,zo,OC,xy] (mG PP II []) 1000 10 [] Hm (λa H=>R (ye H) a) (λ_ _=>False)=aa Xa (aa Xa (aa Xa (aa Xa (R Xa (.bool true))))):=U
theorem Ry:af PP II 10 [] Hm (.ret (.bool true) Hm):=by
 have ht:Xa=true:=Bl A A A A A A A A
 obtain⟨o,c,d⟩:=fJ Hs [S5,Hu,W4,zo,OC,xy] (bm PP II []) 1000 10 [] Hm (λa H=>aa (ye H) (a= .bool true)) (λ_ _=>False) (by
  rw[OD λb a=>aa b (a= .bool true)]
  exact Ze ht (Ze ht (Ze ht (Ze ht (Ze ht A)))))
 cases o with
 |ret a H1=>
  obtain⟨k0,k1⟩:=Zk c
  have k1:a= .bool true:=k1
  subst k1
  exact d.le (ky.of [] (tA k0) A)
 |qt a H1=>exact c.elim
noncomputable def S7:aC PP II:=aC.J0 10
 (λX args a=>match args with
  |[]=>a (.bool true)
  |_=>X.fail)
 λX sem hX args a h=>by
  split at h
  ·exact⟨_,h,λ_=>rfl,λ_=>rfl,Ry⟩
  ·exact zR
end Go.Sx
end
section
set_option maxRecDepth 1000000
namespace Go.Sx
open Go
theorem J1(m)(C)(agg g top)(Q):(kb [GU] [] 11 [.agg [.int .i64 agg,.ab m 3 (au C),.int .i64 g,.int .i64 top]] Q)=(aa (decide (0<=if 3<Int.ofNat m then 3 else Int.ofNat m)&&decide ((if 3<Int.ofNat m then 3 else Int.ofNat m)<=Int.ofNat m)) (aa ((aI 3 (Int.toNat ((if 3<Int.ofNat m then 3 else Int.ofNat m)-0)) λi=>au C (0+i))&&aN .i64 agg&&aN .i64 g&&aN .i64 top) (Q (AV.agg [AV.ab (Query.nw (cJ agg (Int.toNat ((if 3<Int.ofNat m then 3 else Int.ofNat m)-0)) (bG λi=>au C (0+i)) g top)) 3 (au (Query.C (cJ agg (Int.toNat ((if 3<Int.ofNat m then 3 else Int.ofNat m)-0)) (bG λi=>au C (0+i)) g top))),AV.ab (Query.ng (cJ agg (Int.toNat ((if 3<Int.ofNat m then 3 else Int.ofNat m)-0)) (bG λi=>au C (0+i)) g top)) 1 (aR (Query.G (cJ agg (Int.toNat ((if 3<Int.ofNat m then 3 else Int.ofNat m)-0)) (bG λi=>au C (0+i)) g top))),AV.int .i64 (Query.a (cJ agg (Int.toNat ((if 3<Int.ofNat m then 3 else Int.ofNat m)-0)) (bG λi=>au C (0+i)) g top)),AV.int .i64 (Query.fl (cJ agg (Int.toNat ((if 3<Int.ofNat m then 3 else Int.ofNat m)-0)) (bG λi=>au C (0+i)) g top)),AV.str (Query.nu (cJ agg (Int.toNat ((if 3<Int.ofNat m then 3 else Int.ofNat m)-0)) (bG λi=>au C (0+i)) g top)),AV.str (Query.de (cJ agg (Int.toNat ((if 3<Int.ofNat m then 3 else Int.ofNat m)-0)) (bG λi=>au C (0+i)) g top)),AV.int .i64 (Query.top (cJ agg (Int.toNat ((if 3<Int.ofNat m then 3 else Int.ofNat m)-0)) (bG λi=>au C (0+i)) g top))])))):=U
theorem J2{m C agg g top}(h:aI 3 m (au C)=true)(ha:aN .i64 agg=true)(a:aN .i64 g=true)(ht:aN .i64 top=true):
  af PP II 11 [.agg [.int .i64 agg,.ab m 3 (au C),.int .i64 g,.int .i64 top]] (AH.blank 12) (.ret (.agg (aY (cJ agg (min m 3) (bG (au C)) g top))) (AH.blank 12)):=by
 refine bY (ks:=[GU]) (T:=[]) (λσ=>iY _ σ) ?_
 rw[J1]
 have d:Int.ofNat m=(m:Int):=rfl
 have e1:Int.toNat ((if 3<Int.ofNat m then 3 else Int.ofNat m)-0)=min m 3:=by split<;>omega
 have b:(λi=>au C (0+i))=au C:=zA
 rw[e1,b,ha,a,ht]
 have c:aI 3 (min m 3) (au C)=true:=List.all_eq_true.2 λi hi=>List.all_eq_true.1 h i Y
 rw[c]
 exact cC _ _ Y (by rfl)
open Classical in
noncomputable def tC(q:Query)(agg:Int)(m:Nat)(f:Nat->List AV)(g top:Int):Bool:=decide (cJ agg (min m 3) (bG f) g top=q)
open Classical in
theorem J3{q:Query}{agg:Int}{m:Nat}{f:Nat->List AV}{g top:Int}(h:cJ agg (min m 3) (bG f) g top=q):tC q agg m f g top=true:=by
 unfold tC
 exact bW h
open Classical in
theorem J4{q:Query}{agg:Int}{m:Nat}{f:Nat->List AV}{g top:Int}(h:tC q agg m f g top=true):cJ agg (min m 3) (bG f) g top=q:=by
 unfold tC at h
 exact pT h
noncomputable def OE(q:Query):aC PP II:=aC.pure 11
 (λX args c=>match args with
  |[.agg [.int .i64 agg,.ab m 3 f,.int .i64 g,.int .i64 top]]=>X.bq (aI 3 m f&&aN .i64 agg&&aN .i64 g&&aN .i64 top&&tC q agg m f g top) (c (.agg (aY q)))
  |_=>X.fail)
 λX sem hX args c h=>by
  split at h
  ·rename_i agg m f g top
   obtain⟨d,l⟩:=hX.bq _ _ h
   simp only[bf]at d
   obtain⟨⟨⟨⟨a1,a2⟩,n⟩,o⟩,p⟩:=d
   have e:=J4 p
   have k:∀j,j<m->f j=au (bG f) j:=λj a=>(nP (c7 a1 a)).1
   have b:aI 3 m (au (bG f))=true:=List.all_eq_true.2 λj a=>by rw[<-k j (List.mem_range.1 a)];exact c7 a1 (List.mem_range.1 a)
   have:=J2 (agg:=agg) (g:=g) (top:=top) b a2 n o
   have r:cJ agg (min m 3) (bG (au (bG f))) g top=q:=by
    rw[<-e]
    unfold cJ
    rw[SK]
   rw[r]at this
   refine⟨_,l,λ_=>rfl,λ_=>rfl,this.dq ⟨⟨⟨rfl,rfl⟩,⟨rfl,rfl,λi hi=>?_⟩,⟨rfl,rfl⟩,⟨rfl,rfl⟩,trivial⟩,trivial⟩⟩
   rw[k i hi];exact jq (bG f) _ i
  ·exact zR
open Classical in
noncomputable def zp(k:Nat)(F:Nat->ay)(n:Nat)(f:Nat->List AV):Bool:=decide (mZ n (bG f)=k/\oW n (bG f)=F)
open Classical in
theorem OF{k:Nat}{F:Nat->ay}{n:Nat}{f:Nat->List AV}(h:zp k F n f=true):mZ n (bG f)=k/\oW n (bG f)=F:=by
 unfold zp at h
 exact pT h
open Classical in
theorem OG{k:Nat}{F:Nat->ay}{n:Nat}{f:Nat->List AV}(h:mZ n (bG f)=k)(a:oW n (bG f)=F):zp k F n f=true:=by
 unfold zp
 exact bW ⟨h,a⟩
noncomputable def Hz(k:Nat)(F:Nat->ay):aC PP II:=aC.pure 12
 (λX args a=>match args with
  |[.ab n 6 f]=>X.bq (aI 6 n f&&zp k F n f) (a (vo k F))
  |_=>X.fail)
 λX sem hX args a h=>by
  split at h
  ·rename_i n f
   obtain⟨b,c⟩:=hX.bq _ _ h
   rw[bf]at b
   obtain⟨a1,a2⟩:=b
   obtain⟨e1,d⟩:=OF a2
   have:=Dq (X:=bG f) λj e=>(u7 (c7 a1 e)).2
   rw[e1,d]at this
   refine⟨_,c,λ_=>rfl,λ_=>rfl,this.dq ⟨⟨rfl,rfl,λi hi=>?_⟩,trivial⟩⟩
   rw[(u7 (c7 a1 hi)).1]
   exact⟨⟨rfl,rfl⟩,⟨rfl,rfl⟩,⟨rfl,rfl⟩,⟨rfl,rfl⟩,⟨rfl,rfl⟩,⟨rfl,rfl⟩,trivial⟩
  ·exact zR
end Go.Sx
end
section
set_option maxRecDepth 1000000
namespace Go.Sx
open Go
noncomputable def hL:AH:={n:=27,t:=Tr.ofList [(6,.cells dz (.ex 20))]}
end Go.Sx
end
section
set_option maxRecDepth 1000000
namespace Go.Sx
open Go
end Go.Sx
end
section
set_option maxRecDepth 100000
namespace Go.Sx
open Go Go.Sort Go.Shelf Go.Proofs
theorem abk(p:Nat->Bool)(k:Nat):((List.range k).filter p).Pairwise (· < ·):=List.Pairwise.filter p List.pairwise_lt_range
theorem VY{p:Nat->Bool}{k j:Nat}(a:j<aP p k):∃h:j<((List.range k).filter p).length,eQ p k j=((List.range k).filter p)[j]:=⟨a,by
 unfold eQ
 rw[List.getD_eq_getElem?_getD,mo a];rfl⟩
theorem VQ{p:Nat->Bool}{k j:Nat}(a:j<aP p k):eQ p k j<k/\p (eQ p k j)=true:=by
 obtain⟨h,e⟩:=VY a
 have:=List.getElem_mem h
 rw[<-e]at this
 obtain⟨b,c⟩:=List.mem_filter.1 this
 exact⟨List.mem_range.1 b,c⟩
theorem abl{p:Nat->Bool}{k i j:Nat}(a:j<aP p k)(hi:i<j):eQ p k i<eQ p k j:=by
 obtain⟨h,e⟩:=VY a
 obtain⟨b,c⟩:=VY (O:i<aP p k)
 rw[e,c]
 exact List.pairwise_iff_getElem.1 (abk p k) i j b h hi
theorem XD(k:Nat):aP (λ_=>true) k=k:=by
 unfold aP
 rw[List.filter_eq_self.2 λ_ _=>rfl,List.length_range]
end Go.Sx
end
section
set_option maxRecDepth 100000
namespace Go.Sx
open Go
end Go.Sx
end
