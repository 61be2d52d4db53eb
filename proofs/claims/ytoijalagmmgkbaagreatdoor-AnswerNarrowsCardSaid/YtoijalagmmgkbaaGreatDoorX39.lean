/- The proof of a statement of the seat, part 39. -/
import Derived.Test.YtoijalagmmgkbaaGreatDoorX30
import Derived.Test.YtoijalagmmgkbaaGreatDoorX38
import Derived.Test.YtoijalagmmgkbaaGreatDoorX24
set_option linter.all false
set_option linter.defProp false
section
set_option maxRecDepth 1000000
namespace Go.Sx
open Go
theorem af.W5{P:Program}{I:ba}{f:FuncId}{args:List AV}{a:AV}{H0 H:AH}{m:Nat}(h:af P I f args H0 (.ret a H0))(t:H0.n=m)(C:I.G<=m)(D:m<=H.n)(o:∀i,m<=i->H0.get i= .dead)
  (q:∀i,i<m->H0.get i≠ .dead->H.get i=H0.get i/\∀σ:Nat->Nat,(∀j,j<m->σ j=j)->(H0.get i).bD σ=H0.get i) (s:∀σ,bt.bD σ args=args) (ha:∀σ,a.bD σ=a):
  af P I f args H (.ret a H):=by
 intro c ρ w vs hG E u
 let σ:Nat->Nat:=λl=>if l<m then l else H.n+(l-m)
 have b:∀i,i<m->σ i=i:=λi hi=>by simp only[σ,if_pos hi]
 have d:∀i,H0.get i≠ .dead->i<m:=λi hi=>Nat.lt_of_not_le λe=>hi (o i e)
 have v:∀l,H0.get l≠ .dead->H.get (σ l)=(H0.get l).bD σ:=λl hl=>by
  obtain⟨F,J⟩:=q l (d l hl) hl
  rw[b l (d l hl),J σ b,F]
 have K:Sub I.G σ H0 H :=
  {lt:=λl hl=>by rw[t]at hl;rw[b l hl];omega
   ge:=λl hl=>by
    rw[t]at hl⊢
    have :¬ l<m:=Nat.not_lt.2 hl
    simp only[σ,if_neg this]
   same:=v
   inj:=λl y L M e=>by rw[b l (d l L),b y (d y M)]at e;exact e
   fp:=λg N=>⟨by rw[t];omega,b g O⟩
   low:=λl hl=>o l (by rw[t]at hl;exact hl)}
 have ht:Eb σ H0 (CO.ret a H0).heap H H :=
  {n:=by show H.n=H.n+(H0.n-H0.n);omega
   old:=v
   new:=λl hl=>by
    rw[t]at hl
    have :¬ l<m:=Nat.not_lt.2 hl
    show H.get (σ l)=(H0.get l).bD σ
    rw[o l hl]
    simp only[σ,if_neg this]
    rw[u.low _ O]
    rfl
   rest:=λ_ _ _=>rfl}
 have:=h.lift K ht
 rw[s]at this
 have e:(CO.ret a H0).iT σ H= .ret a H:=by
  show CO.ret (a.bD σ) H=_
  rw[ha]
 rw[e]at this
 exact this c ρ w vs hG E u
noncomputable def Hm:AH:={n:=14,t:=Tr.ofList [(0,.cells [.az 5 2 aA] .ro),(1,.cells [.str [48],.str [49]] .ro),(2,.cells [.int .i64 7,.int .i64 9,.int .i64 11,.int .i64 99] .ro),(3,.cells [.map (some 13)] .ro),(6,.cells dz (.ex 20)),(9,.cells [.str [48],.str [49]] .ro),(10,.cells [.str [49],.str [49]] .ro),(13,.map lS)]}
open Classical in
noncomputable def FY(c d e f g h a b:Zv):Bool:=decide (c=Hm.get 0/\d=Hm.get 1/\e=Hm.get 2/\f=Hm.get 3/\g=Hm.get 6/\h=Hm.get 9/\a=Hm.get 10/\b=Hm.get 13)
noncomputable def ye(H:AH):Bool:=Nat.ble 14 H.n&&FY (H.get 0) (H.get 1) (H.get 2) (H.get 3) (H.get 6) (H.get 9) (H.get 10) (H.get 13)
open Classical in
theorem Bl{e f g h i j a b:Zv}(k:e=Hm.get 0)(l:f=Hm.get 1)(m:g=Hm.get 2)(n:h=Hm.get 3)(o:i=Hm.get 6)(p:j=Hm.get 9)(c:a=Hm.get 10)(d:b=Hm.get 13):FY e f g h i j a b=true:=by
 unfold FY
 exact bW ⟨k,l,m,n,o,p,c,d⟩
theorem FZ(i:Nat):Hm.get i=if i=13 then Hm.get 13 else if i=10 then Hm.get 10 else if i=9 then Hm.get 9 else if i=6 then Hm.get 6 else if i=3 then Hm.get 3 else if i=2 then Hm.get 2 else if i=1 then Hm.get 1 else if i=0 then Hm.get 0 else .dead:=by
 repeat' split
 all_goals first
  |(rename_i h;rw[h];done)
  |skip
 unfold Hm
 simp only[AH.get,Tr.ofList,Tr.bH,Tr.qV]
 simp[*]
theorem sh{P:Nat->Zv->Prop}(d:P 0 (Hm.get 0))(e:P 1 (Hm.get 1))(f:P 2 (Hm.get 2))(g:P 3 (Hm.get 3))(j:P 6 (Hm.get 6))(k:P 9 (Hm.get 9))(a:P 10 (Hm.get 10))(b:P 13 (Hm.get 13))(c:∀i,P i .dead)(i:Nat):P i (Hm.get i):=by
 rw[FZ]
 repeat' split
 all_goals first
  |exact c i
  |(rename_i h;rw[h];assumption)
open Classical in
theorem Hv{H:AH}(h:ye H=true):14<=H.n/\∀i,Hm.get i≠ .dead->H.get i=Hm.get i:=by
 unfold ye FY at h
 simp only[bf,bn]at h
 obtain⟨d,f,k1,g,j,k,l,a,c⟩:=h
 refine⟨jX d,λi=>?_⟩
 exact sh (P:=λi b=>b≠ .dead->H.get i=b) (λ_=>f) (λ_=>k1) (λ_=>g) (λ_=>j) (λ_=>k) (λ_=>l) (λ_=>a) (λ_=>c) (λi e=>absurd A e) i
theorem UT(σ:Nat->Nat)(i:Nat):bt.le σ (aA i) (aA i):=by
 unfold aA
 split
 ·exact⟨rfl,trivial,trivial⟩
 all_goals exact⟨rfl,⟨rfl,trivial,trivial⟩,trivial⟩
theorem W6(σ:Nat->Nat)(h:σ 13=13)(l:Nat):(Hm.get l).le σ (Hm.get l):=
 sh (P:=λ_ b=>b.le σ b) ⟨⟨⟨rfl,rfl,λi _=>UT _ i⟩,trivial⟩,trivial⟩ ⟨⟨rfl,rfl,trivial⟩,trivial⟩ ⟨⟨⟨rfl,rfl⟩,⟨rfl,rfl⟩,⟨rfl,rfl⟩,⟨rfl,rfl⟩,trivial⟩,trivial⟩ ⟨⟨h.symm,trivial⟩,trivial⟩ ⟨pz _,rfl⟩ ⟨⟨rfl,rfl,trivial⟩,trivial⟩ ⟨⟨rfl,rfl,trivial⟩,trivial⟩
   ⟨rfl,⟨⟨rfl,rfl⟩,⟨rfl,rfl⟩,⟨rfl,rfl⟩,⟨rfl,rfl⟩,⟨rfl,rfl⟩,trivial⟩,⟨⟨⟨rfl,trivial,trivial⟩,trivial⟩,⟨⟨rfl,trivial,trivial⟩,trivial⟩,⟨⟨rfl,trivial,trivial⟩,trivial⟩,⟨⟨rfl,trivial,trivial⟩,trivial⟩,⟨⟨rfl,trivial,trivial⟩,trivial⟩,trivial⟩⟩ (λ_=>trivial) l
theorem tA{H:AH}(h:ye H=true):im Hm.n [] H Hm:=by
 obtain⟨k2,f⟩:=Hv h
 refine im.of A A A (by rfl) (kV k2) (gS.2 λl hl=>?_)
 have hl:l<14:=hl
 have a:∀j,j<14->sig Hm.n [] H.n j=j:=λj g=>by
  unfold sig
  rw[show Nat.blt j Hm.n=true from(Nat.blt_eq ..).mpr g];rfl
 have c:∀b:Zv,(b≠ .dead->H.get l=b)->b.le (sig Hm.n [] H.n) b->tO (sig Hm.n [] H.n) H.n l H b:=λb i k=>by
  unfold tO
  split
  ·trivial
  ·rename_i d
   rw[a l hl,if_pos O,i (λe=>d e)]
   exact k
 exact c _ (f l) (W6 _ (a 13 O) l)
theorem af.J0{f:FuncId}{args:List AV}{a:AV}{H:AH}(h:af PP II f args Hm (.ret a Hm))(j:ye H=true)(ha:∀σ,a.bD σ=a)(c:∀σ,bt.bD σ args=args):af PP II f args H (.ret a H):=by
 obtain⟨k2,l⟩:=Hv j
 refine h.W5 (m:=14) A zC k2 (λi hi=>?_) (λi hi o=>⟨l i o,λσ d=>?_⟩) c ha
 ·rw[FZ,if_neg O,if_neg O,if_neg O,if_neg O,if_neg O,if_neg O,if_neg O,if_neg O]
 ·have Jh:=d 13 O
  refine sh (P:=λ_ b=>b.bD σ=b) A A A ?_ ?_ A A A (λ_=>rfl) i
  ·show Zv.cells [.map (some (σ 13))] .ro=_
   rw[Jh];rfl
  ·show Zv.cells (bt.bD σ dz) (.ex 20)=_
   rw[nN];rfl
noncomputable def aC.J0(f:FuncId)(spec:{R:Type}->RI R->List AV->(AV->R)->R)
  (ok:∀{R:Type}(X:RI R)(sem:R->Prop),X.Ok sem->∀args c,sem (spec X args c)->∃a,sem (c a)/\(∀σ,a.bD σ=a)/\(∀σ,bt.bD σ args=args)/\af PP II f args Hm (.ret a Hm)):aC PP II where
 f:=f
 spec X args H c _:=jK X 100000 args H λb H'=>X.ak (ye H') (spec X b λa=>c a H')
 ok X sem hX args H c kp h:=by
  obtain⟨b,H',d,i⟩:=gC hX _ _ _ _ h
  obtain⟨j,d⟩:=hX.ak _ _ d
  obtain⟨a,k1,k2,l,m⟩:=ok X sem hX _ _ d
  exact⟨.ret a H',k1,(m.J0 j k2 l).nI i⟩
end Go.Sx
end
section
set_option maxRecDepth 1000000
namespace Go.Sx
open Go
noncomputable def Yj:List (aC PP II):=[Yh,YF,yM,j8,Aw,TY,Me,Cb,Cc,EA,WE,EI,SD,Aj,WC,bU]
def UU:List AV:=[.aw,.aw,.int .i64 1,.int .i64 0,.str [],.str [],.int .i64 0]
def W7(k:AV):Bool:=match k with| .aw=>true| .az 0 1 _=>true|_=>false
def Rv(lo v:List UInt8)(a:AV):Bool:=match a with
 | .bK [.az 1 9 f,.int .i64 0]=>match f 0 with
  |[k,.str s0,.str s1,.str s2,.str b,.str c,.str d,.str e,.str g]=>W7 k&&List.beq s0 lo&&List.beq s1 [49]&&List.beq s2 lo&&List.beq b [49]&&List.beq c v&&List.beq d [49]&&List.beq e v&&List.beq g [49]
  |_=>false
 |_=>false
def OA(lo v:List UInt8):AV:=.bK [.az 1 9 (λ_=>[.az 0 1 (λ_=>[]),.str lo,.str [49],.str lo,.str [49],.str v,.str [49],.str v,.str [49]]),.int .i64 0]
theorem Hw{lo v:List UInt8}{a:AV}(h:Rv lo v a=true)(σ:Nat->Nat):AV.le σ a (OA lo v):=by
 unfold Rv at h
 split at h
 ·rename_i f
  split at h
  ·rename_i k s0 q r s t u w x e
   simp only[bf]at h
   obtain⟨⟨⟨⟨⟨⟨⟨⟨h,b⟩,c⟩,d⟩,g⟩,l⟩,m⟩,n⟩,o⟩:=h
   refine⟨⟨rfl,rfl,λi hi=>?_⟩,⟨rfl,rfl⟩,trivial⟩
   have:i=0:=O
   subst this
   rw[e]
   refine⟨?_,eq_of_beq (α:=List UInt8) b,eq_of_beq (α:=List UInt8) c,eq_of_beq (α:=List UInt8) d,eq_of_beq (α:=List UInt8) g,eq_of_beq (α:=List UInt8) l,eq_of_beq (α:=List UInt8) m,eq_of_beq (α:=List UInt8) n,eq_of_beq (α:=List UInt8) o,trivial⟩
   unfold W7 at h
   split at h
   ·exact(rfl:0=0)
   ·exact⟨rfl,rfl,λj p=>absurd p (lZ j)⟩
   ·cases h
  ·cases h
 ·cases h
theorem Bm{ks:List (aC PP II)}{f:FuncId}{args:List AV}{a:AV}(t:AV->Bool)(ht:∀x,t x=true->∀σ,AV.le σ x a)
  (h:∀R:Bool->Bool->Prop,jE ks (mG PP II []) 1000 f args Hm (λx H=>qC RI.jY 100000 x H λd H2=>R (ye H2) (t d)) (λ_ _=>False)=R (true&&FY (Hm.get 0) (Hm.get 1) (Hm.get 2) (Hm.get 3) (Hm.get 6) (Hm.get 9) (Hm.get 10) (Hm.get 13)) true):af PP II f args Hm (.ret a Hm):=by
 have:=h λb c=>aa b (c=true)
 obtain⟨o,e,g⟩:=fJ iw ks (bm PP II []) 1000 f args Hm (λx H=>qC RI.jY 100000 x H λd H2=>aa (ye H2) (t d=true)) (λ_ _=>False) (by
  rw[this]
  exact Ze (Bl A A A A A A A A) A)
 cases o with
 |ret b H1=>
  obtain⟨x,H2,k1,k2⟩:=lm RI.dJ _ _ _ _ e
  obtain⟨i,k1⟩:=Zk k1
  exact(g.vW k2).le (ky.of [] (tA i) (ht _ k1 _))
 |qt a H1=>exact e.elim
def Bn(i:Nat):List AV:=aF (ur i)++[.str [49],.str [50]]
set_option maxHeartbeats 0 in
theorem F0:af PP II 23 [.agg UU,.az 3 12 Bn] Hm (.ret (OA [54] [49,56]) Hm):=
 Bm (ks:=Yj) (Rv [54] [49,56]) (λ_ h=>Hw h) λR=>U
def W9(i:Nat):Int:=match i with|3=>1|4=>2|_=>0
def S6(i:Nat):Int:=match i with|4=>1|5=>2|_=>0
def OB(_:Nat):List AV:=[.int .i64 0,.int .i64 0,.int .i64 0,.int .i64 0,.int .i64 3,.int .i64 27,.int .i64 62,.int .i64 7,.az 44 1 (ae W9),.az 44 1 (ae S6)]
def Hx(n:Nat)(f:Nat->List AV)(W:Nat->Int):Bool:=bA n f&&(List.range n).all λi=>decide (aM f i=W i)
theorem Dx{n:Nat}{f:Nat->List AV}{W:Nat->Int}(h:Hx n f W=true)(σ:Nat->Nat):AV.le σ (.az n 1 f) (.az n 1 (ae W)):=by
 unfold Hx at h
 rw[bf]at h
 refine⟨rfl,rfl,λi hi=>?_⟩
 have e:=pT (List.all_eq_true.1 h.2 i (List.mem_range.2 hi))
 rw[kZ h.1 i hi]
 show bt.le σ [.int .i64 (aM f i)] [.int .i64 (W i)]
 rw[e]
 exact⟨⟨rfl,rfl⟩,trivial⟩
def Bo(f:Nat->List AV):Bool:=match f 0 with
 |[.int .i64 a,.int .i64 b,.int .i64 c,.int .i64 d,.int .i64 n,.int .i64 l,.int .i64 h,.int .i64 y,.az 44 1 r,.az 44 1 s]=>decide (a=0)&&decide (b=0)&&decide (c=0)&&decide (d=0)&&decide (n=3)&&decide (l=27)&&decide (h=62)&&decide (y=7)&&Hx 44 r W9&&Hx 44 s S6
 |_=>false
theorem zn{f:Nat->List AV}(h:Bo f=true)(σ:Nat->Nat):AV.le σ (.az 1 10 f) (.az 1 10 OB):=by
 unfold Bo at h
 split at h
 ·rename_i a b c d n l g y r s e
  simp only[bf,bn]at h
  obtain⟨⟨⟨⟨⟨⟨⟨⟨⟨rfl,rfl⟩,rfl⟩,rfl⟩,rfl⟩,rfl⟩,rfl⟩,rfl⟩,j⟩,k⟩:=h
  refine⟨rfl,rfl,λi hi=>?_⟩
  have:i=0:=O
  subst this
  rw[e]
  exact⟨⟨rfl,rfl⟩,⟨rfl,rfl⟩,⟨rfl,rfl⟩,⟨rfl,rfl⟩,⟨rfl,rfl⟩,⟨rfl,rfl⟩,⟨rfl,rfl⟩,⟨rfl,rfl⟩,Dx j σ,Dx k σ,trivial⟩
 ·cases h
def UW(a:AV):Bool:=match a with
 | .bK [.agg [.az 1 10 f],.int .i64 0]=>Bo f
 |_=>false
def UX:AV:=.bK [.agg [.az 1 10 OB],.int .i64 0]
theorem Rw{a:AV}(h:UW a=true)(σ:Nat->Nat):AV.le σ a UX:=by
 unfold UW at h
 split at h
 ·exact⟨⟨zn h σ,trivial⟩,⟨rfl,rfl⟩,trivial⟩
 ·cases h
set_option maxHeartbeats 0 in
theorem Rx:af PP II 27 [cm 3 ur] Hm (.ret UX Hm):=
 Bm (ks:=Yj) UW (λ_ h=>Rw h) λR=>U
set_option maxHeartbeats 0 in
theorem Dy:af PP II 28 [.agg UU,.agg [.az 1 10 OB]] Hm (.ret (OA [51] [48]) Hm):=
 Bm (ks:=Yj) (Rv [51] [48]) (λ_ h=>Hw h) λR=>U
end Go.Sx
end
section
set_option maxRecDepth 1000000
namespace Go.Sx
open Go
def Hy(cs:List AV):Bool:=match cs with
 |[.aw,.aw,.int .i64 a,.int .i64 f,.str nu,.str de,.int .i64 t]=>decide (a=1)&&decide (f=0)&&List.beq nu []&&List.beq de []&&decide (t=0)
 |_=>false
theorem Dz{cs:List AV}(h:Hy cs=true):cs=UU:=by
 unfold Hy at h
 split at h
 ·simp only[bf,bn]at h
  obtain⟨⟨⟨⟨rfl,rfl⟩,a⟩,b⟩,rfl⟩:=h
  cases eq_of_beq (α:=List UInt8) a
  cases eq_of_beq (α:=List UInt8) b
  rfl
 ·cases h
def xx(f:Nat->List AV)(i:Nat):Bool:=match f i with
 |[.int .i64 a0,.int .i64 a1,.int .i64 a2,.int .i64 a3,.int .i64 a4,.int .i64 a5,.int .i64 a,.int .i64 b,.int .i64 c,.int .i64 a9,.str n,.str d]=>decide ((⟨a0,a1,a2,a3,a4,a5,a,b,c,a9⟩:ay)=ur i)&&List.beq n [49]&&List.beq d [50]
 |_=>false
theorem tB{f:Nat->List AV}{i:Nat}(h:xx f i=true):bt.le (λl=>l) (f i) (Bn i):=by
 unfold xx at h
 split at h
 ·rename_i a0 a1 a2 g a4 j k m o p n d e
  simp only[bf,bn]at h
  obtain⟨⟨a,b⟩,c⟩:=h
  cases eq_of_beq (α:=List UInt8) b
  cases eq_of_beq (α:=List UInt8) c
  rw[e]
  unfold Bn
  rw[<-a]
  exact⟨⟨rfl,rfl⟩,⟨rfl,rfl⟩,⟨rfl,rfl⟩,⟨rfl,rfl⟩,⟨rfl,rfl⟩,⟨rfl,rfl⟩,⟨rfl,rfl⟩,⟨rfl,rfl⟩,⟨rfl,rfl⟩,⟨rfl,rfl⟩,rfl,rfl,trivial⟩
 ·cases h
noncomputable def zo:aC PP II:=aC.J0 23
 (λX args a=>match args with
  |[.agg cs,.az 3 12 f]=>X.ak (Hy cs&&xx f 0&&xx f 1&&xx f 2) (a (OA [54] [49,56]))
  |_=>X.fail)
 λX sem hX args a h=>by
  split at h
  ·rename_i cs f
   obtain⟨b,c⟩:=hX.ak _ _ h
   simp only[bf]at b
   obtain⟨⟨⟨d,e⟩,g⟩,j⟩:=b
   cases Dz d
   refine⟨_,c,λ_=>rfl,λ_=>rfl,af.dA F0 ⟨trivial,trivial,⟨rfl,rfl⟩,⟨rfl,rfl⟩,rfl,rfl,⟨rfl,rfl⟩,trivial⟩ ⟨rfl,rfl,λi hi=>?_⟩⟩
   match i,hi with
   |0,_=>exact tB e
   |1,_=>exact tB g
   |2,_=>exact tB j
   |i+3,h=>exact absurd h O
  ·exact zR
noncomputable def OC:aC PP II:=aC.J0 27
 (λX args a=>match args with
  |[.az 3 10 f]=>X.ak (Vr f) (a UX)
  |_=>X.fail)
 λX sem hX args a h=>by
  split at h
  ·obtain⟨b,c⟩:=hX.ak _ _ h
   exact⟨_,c,λ_=>rfl,λ_=>rfl,Rx.dq ⟨Bk b,trivial⟩⟩
  ·exact zR
noncomputable def xy:aC PP II:=aC.J0 28
 (λX args b=>match args with
  |[.agg cs,.agg [.az 1 10 f]]=>X.ak (Hy cs&&Bo f) (b (OA [51] [48]))
  |_=>X.fail)
 λX sem hX args b h=>by
  split at h
  ·rename_i cs f
   obtain⟨a,c⟩:=hX.ak _ _ h
   simp only[bf]at a
   cases Dz a.1
   exact⟨_,c,λ_=>rfl,λ_=>rfl,af.dA Dy ⟨trivial,trivial,⟨rfl,rfl⟩,⟨rfl,rfl⟩,rfl,rfl,⟨rfl,rfl⟩,trivial⟩ ⟨zn a.2 _,trivial⟩⟩
  ·exact zR
noncomputable def Xa:Bool:=true&&FY (Hm.get 0) (Hm.get 1) (Hm.get 2) (Hm.get 3) (Hm.get 6) (Hm.get 9) (Hm.get 10) (Hm.get 13)
theorem OD(R:Bool->AV->Prop):jE [S5,Hu,W4,zo,OC,xy] (mG PP II []) 1000 10 [] Hm (λa H=>R (ye H) a) (λ_ _=>False)=aa Xa (aa Xa (aa Xa (R Xa (.bool true)))):=U
theorem Ry:af PP II 10 [] Hm (.ret (.bool true) Hm):=by
 have ht:Xa=true:=Bl A A A A A A A A
 obtain⟨o,c,d⟩:=fJ iw [S5,Hu,W4,zo,OC,xy] (bm PP II []) 1000 10 [] Hm (λa H=>aa (ye H) (a= .bool true)) (λ_ _=>False) (by
  rw[OD λb a=>aa b (a= .bool true)]
  exact Ze ht (Ze ht (Ze ht (Ze ht A))))
 cases o with
 |ret a H1=>
  obtain⟨e,k1⟩:=Zk c
  have k1:a= .bool true:=k1
  subst k1
  exact d.le (ky.of [] (tA e) A)
 |qt a H1=>exact c.elim
noncomputable def S7:aC PP II:=aC.J0 10
 (λX args a=>match args with
  |[]=>a (.bool true)
  |_=>X.fail)
 λX sem hX args a h=>by
  split at h
  ·exact⟨_,h,λ_=>rfl,λ_=>rfl,Ry⟩
  ·exact zR
end Go.Sx
end
section
set_option maxRecDepth 1000000
namespace Go.Sx
open Go
theorem J1(m:Nat)(C:Nat->Nat->Int)(agg g top:Int)(Q:AV->Prop):(kb [GU] [] 11 [.agg [.int .i64 agg,.az m 3 (au C),.int .i64 g,.int .i64 top]] Q)=(aa (decide (0<=if 3<Int.ofNat m then 3 else Int.ofNat m)&&decide ((if 3<Int.ofNat m then 3 else Int.ofNat m)<=Int.ofNat m)) (aa ((aI 3 (Int.toNat ((if 3<Int.ofNat m then 3 else Int.ofNat m)-0)) λi=>au C (0+i))&&aN .i64 agg&&aN .i64 g&&aN .i64 top) (Q (AV.agg [AV.az (Query.nw (cJ agg (Int.toNat ((if 3<Int.ofNat m then 3 else Int.ofNat m)-0)) (bG λi=>au C (0+i)) g top)) 3 (au (Query.C (cJ agg (Int.toNat ((if 3<Int.ofNat m then 3 else Int.ofNat m)-0)) (bG λi=>au C (0+i)) g top))),AV.az (Query.ng (cJ agg (Int.toNat ((if 3<Int.ofNat m then 3 else Int.ofNat m)-0)) (bG λi=>au C (0+i)) g top)) 1 (aR (Query.G (cJ agg (Int.toNat ((if 3<Int.ofNat m then 3 else Int.ofNat m)-0)) (bG λi=>au C (0+i)) g top))),AV.int .i64 (Query.a (cJ agg (Int.toNat ((if 3<Int.ofNat m then 3 else Int.ofNat m)-0)) (bG λi=>au C (0+i)) g top)),AV.int .i64 (Query.fl (cJ agg (Int.toNat ((if 3<Int.ofNat m then 3 else Int.ofNat m)-0)) (bG λi=>au C (0+i)) g top)),AV.str (Query.nu (cJ agg (Int.toNat ((if 3<Int.ofNat m then 3 else Int.ofNat m)-0)) (bG λi=>au C (0+i)) g top)),AV.str (Query.de (cJ agg (Int.toNat ((if 3<Int.ofNat m then 3 else Int.ofNat m)-0)) (bG λi=>au C (0+i)) g top)),AV.int .i64 (Query.top (cJ agg (Int.toNat ((if 3<Int.ofNat m then 3 else Int.ofNat m)-0)) (bG λi=>au C (0+i)) g top))])))):=U
theorem J2{m:Nat}{C:Nat->Nat->Int}{agg g top:Int}(h:aI 3 m (au C)=true)(ha:aN .i64 agg=true)(a:aN .i64 g=true)(ht:aN .i64 top=true):
  af PP II 11 [.agg [.int .i64 agg,.az m 3 (au C),.int .i64 g,.int .i64 top]] (AH.blank 12) (.ret (.agg (aY (cJ agg (min m 3) (bG (au C)) g top))) (AH.blank 12)):=by
 refine bY (ks:=[GU]) (T:=[]) (λσ=>iY _ σ) ?_
 rw[J1]
 have e:Int.ofNat m=(m:Int):=rfl
 have b:Int.toNat ((if 3<Int.ofNat m then 3 else Int.ofNat m)-0)=min m 3:=by split<;>omega
 have c:(λi=>au C (0+i))=au C:=funext λi=>by rw[Nat.zero_add]
 rw[b,c,ha,a,ht]
 have d:aI 3 (min m 3) (au C)=true:=List.all_eq_true.2 λi hi=>List.all_eq_true.1 h i (List.mem_range.2 (by have:=List.mem_range.1 hi;omega))
 rw[d]
 exact cC _ _ (by split<;>simp only[bf,bn]<;>omega) (cC _ _ A A)
open Classical in
noncomputable def tC(q:Query)(agg:Int)(m:Nat)(f:Nat->List AV)(g top:Int):Bool:=decide (cJ agg (min m 3) (bG f) g top=q)
open Classical in
theorem J3{q:Query}{agg:Int}{m:Nat}{f:Nat->List AV}{g top:Int}(h:cJ agg (min m 3) (bG f) g top=q):tC q agg m f g top=true:=by
 unfold tC
 exact bW h
open Classical in
theorem J4{q:Query}{agg:Int}{m:Nat}{f:Nat->List AV}{g top:Int}(h:tC q agg m f g top=true):cJ agg (min m 3) (bG f) g top=q:=by
 unfold tC at h
 exact pT h
noncomputable def OE(q:Query):aC PP II:=aC.pure 11
 (λX args c=>match args with
  |[.agg [.int .i64 agg,.az m 3 f,.int .i64 g,.int .i64 top]]=>X.ak (aI 3 m f&&aN .i64 agg&&aN .i64 g&&aN .i64 top&&tC q agg m f g top) (c (.agg (aY q)))
  |_=>X.fail)
 λX sem hX args c h=>by
  split at h
  ·rename_i agg m f g top
   obtain⟨d,l⟩:=hX.ak _ _ h
   simp only[bf]at d
   obtain⟨⟨⟨⟨a1,a2⟩,n⟩,a4⟩,o⟩:=d
   have e:=J4 o
   have k:∀j,j<m->f j=au (bG f) j:=λj a=>(nP (c7 a1 a)).1
   have b:aI 3 m (au (bG f))=true:=List.all_eq_true.2 λj a=>by rw[<-k j (List.mem_range.1 a)];exact c7 a1 (List.mem_range.1 a)
   have:=J2 (agg:=agg) (g:=g) (top:=top) b a2 n a4
   have p:cJ agg (min m 3) (bG (au (bG f))) g top=q:=by
    rw[<-e]
    unfold cJ
    rw[SK]
   rw[p]at this
   refine⟨_,l,λ_=>rfl,λ_=>rfl,this.dq ⟨⟨⟨rfl,rfl⟩,⟨rfl,rfl,λi hi=>?_⟩,⟨rfl,rfl⟩,⟨rfl,rfl⟩,trivial⟩,trivial⟩⟩
   rw[k i hi];exact jq (bG f) _ i
  ·exact zR
open Classical in
noncomputable def zp(k:Nat)(F:Nat->ay)(n:Nat)(f:Nat->List AV):Bool:=decide (mZ n (bG f)=k/\oW n (bG f)=F)
open Classical in
theorem OF{k:Nat}{F:Nat->ay}{n:Nat}{f:Nat->List AV}(h:zp k F n f=true):mZ n (bG f)=k/\oW n (bG f)=F:=by
 unfold zp at h
 exact pT h
open Classical in
theorem OG{k:Nat}{F:Nat->ay}{n:Nat}{f:Nat->List AV}(h:mZ n (bG f)=k)(a:oW n (bG f)=F):zp k F n f=true:=by
 unfold zp
 exact bW ⟨h,a⟩
noncomputable def Hz(k:Nat)(F:Nat->ay):aC PP II:=aC.pure 12
 (λX args a=>match args with
  |[.az n 6 f]=>X.ak (aI 6 n f&&zp k F n f) (a (cm k F))
  |_=>X.fail)
 λX sem hX args a h=>by
  split at h
  ·rename_i n f
   obtain⟨b,c⟩:=hX.ak _ _ h
   rw[bf]at b
   obtain⟨a1,a2⟩:=b
   obtain⟨d,e⟩:=OF a2
   have:=Dq (X:=bG f) λj g=>(u7 (c7 a1 g)).2
   rw[d,e]at this
   refine⟨_,c,λ_=>rfl,λ_=>rfl,this.dq ⟨⟨rfl,rfl,λi hi=>?_⟩,trivial⟩⟩
   rw[(u7 (c7 a1 hi)).1]
   exact⟨⟨rfl,rfl⟩,⟨rfl,rfl⟩,⟨rfl,rfl⟩,⟨rfl,rfl⟩,⟨rfl,rfl⟩,⟨rfl,rfl⟩,trivial⟩
  ·exact zR
end Go.Sx
end
section
set_option maxRecDepth 1000000
namespace Go.Sx
open Go
noncomputable def hL:AH:={n:=27,t:=Tr.ofList [(6,.cells dz (.ex 20))]}
end Go.Sx
end
section
set_option maxRecDepth 1000000
namespace Go.Sx
open Go
structure Fits (g pn tn:Nat) (KA KB:Nat->Nat->Int) (SA SB:Nat->Nat->List UInt8) (a:Nat->Nat):Prop where
 lt:∀i,i<tn->a i<pn
 mono:∀i,i+1<tn->a i<=a (i+1)
 key:∀i,i<tn->A9 g (KA (a i)) (KB i)=true
 YM:∀i b,i<tn->b<a i->A9 g (KA b) (KB i)=false
 one:∀i,i<tn->SB i 2=SB i 0/\SB i 3=SB i 1
 ra:∀i,i<pn->bJ (SA i 0) (SA i 1)=true/\bJ (SA i 2) (SA i 3)=true
 rb:∀i,i<tn->bJ (SB i 0) (SB i 1)=true
 lo:∀i,i<tn->bw (Zt (SA (a i) 0)) (Zt (SA (a i) 1)) (Zt (SB i 0)) (Zt (SB i 1))<=0
 hi:∀i,i<tn->0<=bw (Zt (SA (a i) 2)) (Zt (SA (a i) 3)) (Zt (SB i 0)) (Zt (SB i 1))
end Go.Sx
end
section
set_option maxRecDepth 100000
namespace Go.Sx
open Go Go.Sort Go.Shelf Go.Proofs
theorem OL(p:Nat->Bool)(k:Nat):((List.range k).filter p).Pairwise (· < ·):=List.Pairwise.filter p List.pairwise_lt_range
theorem tD{p:Nat->Bool}{k j:Nat}(a:j<aP p k):∃h:j<((List.range k).filter p).length,eQ p k j=((List.range k).filter p)[j]:=⟨a,by
 unfold eQ
 rw[List.getD_eq_getElem?_getD,mo a];rfl⟩
theorem DA{p:Nat->Bool}{k j:Nat}(a:j<aP p k):eQ p k j<k/\p (eQ p k j)=true:=by
 obtain⟨h,e⟩:=tD a
 have:=List.getElem_mem h
 rw[<-e]at this
 obtain⟨b,c⟩:=List.mem_filter.1 this
 exact⟨List.mem_range.1 b,c⟩
theorem DB{p:Nat->Bool}{k i j:Nat}(a:j<aP p k)(hi:i<j):eQ p k i<eQ p k j:=by
 obtain⟨h,e⟩:=tD a
 obtain⟨b,c⟩:=tD (O:i<aP p k)
 rw[e,c]
 exact List.pairwise_iff_getElem.1 (OL p k) i j b h hi
theorem J5(p:Nat->Bool)(k m:Nat):aP p k<=aP p (k+m):=by
 unfold aP
 rw[List.range_add,List.filter_append,List.length_append]
 exact Nat.le_add_right _ _
theorem zu{p:Nat->Bool}{k m:Nat}(h:k<=m):aP p k<=aP p m:=by
 have:=J5 p k (m-k)
 rwa[show k+(m-k)=m by omega]at this
theorem RJ{p:Nat->Bool}{k m:Nat}(a:m<k)(h:p m=true):aP p m<aP p k:=by
 have:=zu (p:=p) (O:m+1<=k)
 rw[iE h]at this
 omega
theorem OM{p r:Nat->Bool}{k:Nat}(h:∀i,i<k->p i=true->r i=true):aP p k<=aP r k:=by
 unfold aP
 rw[<-List.countP_eq_length_filter,<-List.countP_eq_length_filter]
 exact List.countP_mono_left λi hi=>h i (List.mem_range.1 hi)
def il(q:Query)(m:Nat)(S:Nat->Nat->List UInt8)(i:Nat):Bool:=if q.top=0 then true else cQ q m S i
theorem DC(k:Nat):aP (λ_=>true) k=k:=by
 unfold aP
 rw[List.filter_eq_self.2 λ_ _=>rfl,List.length_range]
theorem J6{k j:Nat}(a:j<k):eQ (λ_=>true) k j=j:=by
 have:=wS (p:=λ_=>true) a A
 rwa[DC]at this
theorem xz(q:Query)(m:Nat)(S:Nat->Nat->List UInt8):ju q m S=aP (il q m S) m:=by
 unfold ju
 by_cases h:q.top=0
 ·rw[if_pos h,show il q m S=λ_=>true from funext λi=>if_pos h,DC]
 ·rw[if_neg h,show il q m S=cQ q m S from funext λi=>if_neg h]
theorem nX(q:Query)(m:Nat)(S:Nat->Nat->List UInt8){j:Nat}(a:j<ju q m S):cS q m S j=eQ (il q m S) m j:=by
 unfold ju at a
 unfold cS
 by_cases h:q.top=0
 ·rw[if_pos h]at a⊢
  rw[show il q m S=λ_=>true from funext λi=>if_pos h,J6 a]
 ·rw[if_neg h,show il q m S=cQ q m S from funext λi=>if_neg h]
theorem ON{q:Query}{m:Nat}{S T:Nat->Nat->List UInt8}(h:∀i a,i<m->a<m->xY S i a=true->xY T i a=true)(i:Nat)(hi:i<m)(k:il q m T i=true):il q m S i=true:=by
 unfold il at*
 by_cases e:q.top=0
 ·rw[if_pos e]
 ·rw[if_neg e]at k⊢
  unfold cQ at*
  rw[bn]at k⊢
  have:=OM (p:=xY S i) (r:=xY T i) (k:=m) λa ha=>h i a hi ha
  omega
theorem RL{q:Query}{m:Nat}{K:Nat->Nat->Int}{S T b d:Nat->Nat->List UInt8}
  (apart:∀i j,i<m->j<m->i≠j->A9 q.ng (K i) (K j)=false)
  (t:∀i,i<m->bJ (S i 0) (S i 1)=true/\bJ (S i 2) (S i 3)=true) (ht:∀i,i<m->bJ (T i 0) (T i 1)=true) (one:∀i,T i 2=T i 0/\T i 3=T i 1)
  (n:∀i,i<m->lY (tv (S i 0,S i 1)) (tv (T i 0,T i 1))/\lY (tv (T i 0,T i 1)) (tv (S i 2,S i 3)))
  (r:∀i,b i 0=S i 0/\b i 1=S i 1/\b i 2=S i 2/\b i 3=S i 3) (s:∀i,d i 0=T i 0/\d i 1=T i 1/\d i 2=T i 2/\d i 3=T i 3):
  Fits q.ng (ju q m b) (ju q m d) (λj=>K (cS q m b j)) (λj=>K (cS q m d j)) (λj=>S (cS q m b j)) (λj=>T (cS q m d j)) (λi=>aP (il q m b) (cS q m d i)):=by
 have pos:∀i,i<m->0<(tv (T i 0,T i 1)).2:=λi hi=>by
  have:=ht i hi
  unfold bJ at this
  simp only[bf]at this
  have:=this.1.2
  rw[Nat.blt_eq]at this
  exact this
 have sub:∀i,i<m->il q m d i=true->il q m b i=true:=ON λi a hi ha h=>by
  unfold xY at*
  obtain⟨s0,u,_,_⟩:=r a
  obtain⟨_,_,v,w⟩:=r i
  obtain⟨x,t1,_,_⟩:=s a
  obtain⟨_,_,t2,y⟩:=s i
  obtain⟨C,D⟩:=one i
  rw[s0,u,v,w]at h
  rw[x,t1,t2,y,C,D]
  rw[bn]at h⊢
  refine Int.not_le.1 λc=>absurd (xw.2 ?_) (Int.not_le.2 h)
  exact lY.trans (pos a ha) (n a ha).1 (lY.trans (pos i hi) (xw.1 c) (n i hi).2)
 have f:∀i,i<ju q m d->cS q m d i<m/\il q m b (cS q m d i)=true:=λi hi=>by
  have h:=hi
  rw[xz]at h
  have:=DA h
  rw[<-nX q m d hi]at this
  exact⟨this.1,sub _ this.1 this.2⟩
 have l:∀i,i<ju q m b->cS q m b i<m:=λi hi=>by
  have h:=hi
  rw[xz]at h
  rw[nX q m b hi]
  exact(DA h).1
 have k:∀i,i<ju q m d->aP (il q m b) (cS q m d i)<ju q m b:=λi hi=>by
  rw[xz q m b]
  exact RJ (f i hi).1 (f i hi).2
 have g:∀i,i<ju q m d->cS q m b (aP (il q m b) (cS q m d i))=cS q m d i:=λi hi=>by
  rw[nX q m b (k i hi)]
  exact wS (f i hi).1 (f i hi).2
 exact {
  lt:=k
  mono:=λi hi=>by
   refine zu (Nat.le_of_lt ?_)
   have h:=hi
   rw[xz]at h
   rw[nX q m d hi,nX q m d (O:i<ju q m d)]
   exact DB h (Nat.lt_succ_self i)
  key:=λi hi=>by
   show A9 q.ng (K (cS q m b (aP (il q m b) (cS q m d i)))) (K (cS q m d i))=true
   rw[g i hi]
   exact List.all_eq_true.2 λ_ _=>bW A
  YM:=λi j hi E=>by
   have o:=k i hi
   have p:j<aP (il q m b) (cS q m d i):=E
   have e:=g i hi
   refine apart _ _ (l j O) (f i hi).1 λc=>?_
   rw[<-e,nX q m b o,nX q m b (O:j<ju q m b)]at c
   rw[xz]at o
   have:=DB o p
   omega
  one:=λi hi=>one _
  ra:=λi hi=>t _ (l i hi)
  rb:=λi hi=>ht _ (f i hi).1
  lo:=λi hi=>by
   show bw (Zt (S (cS q m b (aP (il q m b) (cS q m d i))) 0)) (Zt (S (cS q m b (aP (il q m b) (cS q m d i))) 1)) _ _<=0
   rw[g i hi]
   exact xw.2 (n _ (f i hi).1).1
  hi:=λi hi=>by
   show 0<=bw (Zt (S (cS q m b (aP (il q m b) (cS q m d i))) 2)) (Zt (S (cS q m b (aP (il q m b) (cS q m d i))) 3)) _ _
   rw[g i hi]
   exact FW.2 (n _ (f i hi).1).2}
theorem J7{q:Query}{k:Nat}{F:Nat->ay}(i j:Nat)(hi:i<(aV q F k).length)(l:j<(aV q F k).length)(b:i≠j):
  A9 q.ng (dK (og q (aV q F k)) i) (dK (og q (aV q F k)) j)=false:=by
 have c:=tj q F k
 have pl:=Dd q.ng (aV q F k).length (fj q.ng (aV q F k))
 have f:=u4 q.ng (aV q F k).length (fj q.ng (aV q F k)) hi
 have g:=u4 q.ng (aV q F k).length (fj q.ng (aV q F k)) l
 have nd:(lW q.ng (aV q F k).length (fj q.ng (aV q F k))).Nodup:=((List.mergeSort_perm _ _).nodup_iff).2 List.nodup_range
 have m:(lW q.ng (aV q F k).length (fj q.ng (aV q F k))).getD i 0≠(lW q.ng (aV q F k).length (fj q.ng (aV q F k))).getD j 0:=λe=>by
  rw[List.getD_eq_getElem?_getD,List.getD_eq_getElem?_getD,mo (O:i<_),mo (O:j<_)]at e
  rcases Nat.lt_or_gt_of_ne b with h|h
  ·exact List.pairwise_iff_getElem.1 nd i j O O h e
  ·exact List.pairwise_iff_getElem.1 nd j i O O h e.symm
 cases he:A9 q.ng (dK (og q (aV q F k)) i) (dK (og q (aV q F k)) j)with
 |false=>rfl
 |true=>
  refine absurd ?_ (c.apart _ _ f g m)
  have n:∀a,a<q.ng->(og q (aV q F k) i).W a=(og q (aV q F k) j).W a:=λa ha=>pT (List.all_eq_true.1 he a (List.mem_range.2 ha))
  rw[c.key _ f,c.key _ g]
  have d:∀a,(bif Nat.blt a q.ng then(og q (aV q F k) i).W a else 0)=bif Nat.blt a q.ng then(og q (aV q F k) j).W a else 0:=λa=>by
   cases h:Nat.blt a q.ng with
   |false=>rfl
   |true=>rw[Nat.blt_eq]at h;exact n a h
  show [bif Nat.blt 0 q.ng then(og q (aV q F k) i).W 0 else 0,bif Nat.blt 1 q.ng then(og q (aV q F k) i).W 1 else 0,bif Nat.blt 2 q.ng then(og q (aV q F k) i).W 2 else 0]=[bif Nat.blt 0 q.ng then(og q (aV q F k) j).W 0 else 0,bif Nat.blt 1 q.ng then(og q (aV q F k) j).W 1 else 0,bif Nat.blt 2 q.ng then(og q (aV q F k) j).W 2 else 0]
  rw[d 0,d 1,d 2]
def Xv(q:Query)(k:Nat)(F:Nat->ay)(D:Nat->Int)(i:Nat):Nat:=aP (il q (aV q F k).length (yc q (og q (aV q F k)))) (cS q (aV q F k).length (Bf q F D (og q (aV q F k))) i)
theorem contains{q:Query}{k:Nat}{F:Nat->ay}{D:Nat->Int}(g:ct q=true)(b:cX k F=true)(c:r9 k F D):
  Fits q.ng (r8 q k F) (sb q k F D) (FM q k F) (FV q k F D) (oU q k F) (xm q k F D) (Xv q k F D):=by
 have d:=jR b
 have a:=(mY g).2.2
 have hX:=tm a b
 have e:∀i,i<(aV q F k).length->oc q F k (og q (aV q F k) i):=λi hi=>Ho q F k hi
 refine RL (K:=dK (og q (aV q F k))) (S:=jC q (og q (aV q F k))) (T:=jy q F D (og q (aV q F k))) J7 (λi hi=>?_) (λi hi=>?_) (λi=>⟨rfl,rfl⟩) (λi hi=>?_) (λi=>⟨rfl,rfl,rfl,rfl⟩) λi=>⟨rfl,rfl,rfl,rfl⟩
 ·obtain⟨f,h,j⟩:=hX i hi
  exact⟨y7 f h a,y8 f j a⟩
 ·exact cz (xl a d c (e i hi) (hX i hi).1) a
 ·exact Rp a d c (e i hi)
end Go.Sx
end
