/- The proof of a statement of the seat, part 39. -/
import Derived.Test.YtoijalagmmgkbaaGreatDoorX38
import Derived.Test.YtoijalagmmgkbaaGreatDoorX24
set_option linter.all false
set_option linter.defProp false
section
set_option maxRecDepth 1000000
namespace Go.Sx
open Go
noncomputable def Yj:List (aC PP II):=[Yh,YF,yM,j8,Aw,TY,Me,Cb,Cc,EA,WE,EI,SD,Aj,WC,bU]
def UU:List AV:=[.aw,.aw,.int .i64 1,.int .i64 0,.str [],.str [],.int .i64 0]
def W7(k:AV):Bool:=match k with| .aw=>true| .ab 0 1 _=>true|_=>false
def Rv(lo v:List UInt8)(a:AV):Bool:=match a with
 | .bK [.ab 1 9 f,.int .i64 0]=>match f 0 with
  |[k,.str s0,.str s1,.str s2,.str b,.str c,.str d,.str e,.str g]=>W7 k&&List.beq s0 lo&&List.beq s1 [49]&&List.beq s2 lo&&List.beq b [49]&&List.beq c v&&List.beq d [49]&&List.beq e v&&List.beq g [49]
  |_=>false
 |_=>false
def OA(lo v:List UInt8):AV:=.bK [.ab 1 9 (λ_=>[.ab 0 1 (λ_=>[]),.str lo,.str [49],.str lo,.str [49],.str v,.str [49],.str v,.str [49]]),.int .i64 0]
theorem Hw{lo v:List UInt8}{a:AV}(h:Rv lo v a=true)(σ:Nat->Nat):AV.le σ a (OA lo v):=by
 unfold Rv at h
 split at h
 ·rename_i f
  split at h
  ·rename_i k s0 q r s t u w x e
   simp only[bf]at h
   obtain⟨⟨⟨⟨⟨⟨⟨⟨h,b⟩,c⟩,d⟩,g⟩,l⟩,m⟩,n⟩,o⟩:=h
   refine⟨⟨rfl,rfl,λi hi=>?_⟩,⟨rfl,rfl⟩,trivial⟩
   have:i=0:=O
   subst this
   rw[e]
   refine⟨?_,eq_of_beq (α:=List UInt8) b,eq_of_beq (α:=List UInt8) c,eq_of_beq (α:=List UInt8) d,eq_of_beq (α:=List UInt8) g,eq_of_beq (α:=List UInt8) l,eq_of_beq (α:=List UInt8) m,eq_of_beq (α:=List UInt8) n,eq_of_beq (α:=List UInt8) o,trivial⟩
   unfold W7 at h
   split at h
   ·exact(rfl:0=0)
   ·exact⟨rfl,rfl,λj p=>absurd p (lZ j)⟩
   ·cases h
  ·cases h
 ·cases h
theorem Bm{ks:List (aC PP II)}{f:FuncId}{args:List AV}{a:AV}(t:AV->Bool)(ht:∀x,t x=true->∀σ,AV.le σ x a)
  (h:∀R:Bool->Bool->Prop,jE ks (mG PP II []) 1000 f args Hm (λx H=>qC RI.jY 100000 x H λd H2=>R (ye H2) (t d)) (λ_ _=>False)=R (true&&FY (Hm.get 0) (Hm.get 1) (Hm.get 2) (Hm.get 3) (Hm.get 6) (Hm.get 9) (Hm.get 10) (Hm.get 13)) true):af PP II f args Hm (.ret a Hm):=by
 have:=h λb c=>aa b (c=true)
 obtain⟨o,e,g⟩:=fJ iw ks (bm PP II []) 1000 f args Hm (λx H=>qC RI.jY 100000 x H λd H2=>aa (ye H2) (t d=true)) (λ_ _=>False) (by
  rw[this]
  exact Ze (Bl A A A A A A A A) A)
 cases o with
 |ret b H1=>
  obtain⟨x,H2,k1,k2⟩:=lm RI.dJ _ _ _ _ e
  obtain⟨i,k1⟩:=Zk k1
  exact(g.vW k2).le (ky.of [] (tA i) (ht _ k1 _))
 |qt a H1=>exact e.elim
def Bn(i:Nat):List AV:=aF (ur i)++[.str [49],.str [50]]
set_option maxHeartbeats 0 in
theorem F0:af PP II 23 [.agg UU,.ab 3 12 Bn] Hm (.ret (OA [54] [49,56]) Hm):=
 Bm (ks:=Yj) (Rv [54] [49,56]) (λ_ h=>Hw h) λR=>U
def W9(i:Nat):Int:=match i with|3=>1|4=>2|_=>0
def S6(i:Nat):Int:=match i with|4=>1|5=>2|_=>0
def OB(_:Nat):List AV:=[.int .i64 0,.int .i64 0,.int .i64 0,.int .i64 0,.int .i64 3,.int .i64 27,.int .i64 62,.int .i64 7,.ab 44 1 (ae W9),.ab 44 1 (ae S6)]
def Hx(n:Nat)(f:Nat->List AV)(W:Nat->Int):Bool:=bA n f&&(List.range n).all λi=>decide (aM f i=W i)
theorem Dx{n:Nat}{f:Nat->List AV}{W:Nat->Int}(h:Hx n f W=true)(σ:Nat->Nat):AV.le σ (.ab n 1 f) (.ab n 1 (ae W)):=by
 unfold Hx at h
 rw[bf]at h
 refine⟨rfl,rfl,λi hi=>?_⟩
 have e:=pT (List.all_eq_true.1 h.2 i (List.mem_range.2 hi))
 rw[kZ h.1 i hi]
 show bt.le σ [.int .i64 (aM f i)] [.int .i64 (W i)]
 rw[e]
 exact⟨⟨rfl,rfl⟩,trivial⟩
def Bo(f:Nat->List AV):Bool:=match f 0 with
 |[.int .i64 a,.int .i64 b,.int .i64 c,.int .i64 d,.int .i64 n,.int .i64 l,.int .i64 h,.int .i64 y,.ab 44 1 r,.ab 44 1 s]=>decide (a=0)&&decide (b=0)&&decide (c=0)&&decide (d=0)&&decide (n=3)&&decide (l=27)&&decide (h=62)&&decide (y=7)&&Hx 44 r W9&&Hx 44 s S6
 |_=>false
theorem zn{f:Nat->List AV}(h:Bo f=true)(σ:Nat->Nat):AV.le σ (.ab 1 10 f) (.ab 1 10 OB):=by
 unfold Bo at h
 split at h
 ·rename_i a b c d n l g y r s e
  simp only[bf,bn]at h
  obtain⟨⟨⟨⟨⟨⟨⟨⟨⟨rfl,rfl⟩,rfl⟩,rfl⟩,rfl⟩,rfl⟩,rfl⟩,rfl⟩,j⟩,k⟩:=h
  refine⟨rfl,rfl,λi hi=>?_⟩
  have:i=0:=O
  subst this
  rw[e]
  exact⟨⟨rfl,rfl⟩,⟨rfl,rfl⟩,⟨rfl,rfl⟩,⟨rfl,rfl⟩,⟨rfl,rfl⟩,⟨rfl,rfl⟩,⟨rfl,rfl⟩,⟨rfl,rfl⟩,Dx j σ,Dx k σ,trivial⟩
 ·cases h
def UW(a:AV):Bool:=match a with
 | .bK [.agg [.ab 1 10 f],.int .i64 0]=>Bo f
 |_=>false
def UX:AV:=.bK [.agg [.ab 1 10 OB],.int .i64 0]
theorem Rw{a:AV}(h:UW a=true)(σ:Nat->Nat):AV.le σ a UX:=by
 unfold UW at h
 split at h
 ·exact⟨⟨zn h σ,trivial⟩,⟨rfl,rfl⟩,trivial⟩
 ·cases h
set_option maxHeartbeats 0 in
theorem Rx:af PP II 27 [cm 3 ur] Hm (.ret UX Hm):=
 Bm (ks:=Yj) UW (λ_ h=>Rw h) λR=>U
set_option maxHeartbeats 0 in
theorem Dy:af PP II 28 [.agg UU,.agg [.ab 1 10 OB]] Hm (.ret (OA [51] [48]) Hm):=
 Bm (ks:=Yj) (Rv [51] [48]) (λ_ h=>Hw h) λR=>U
end Go.Sx
end
section
set_option maxRecDepth 1000000
namespace Go.Sx
open Go
def Hy(cs:List AV):Bool:=match cs with
 |[.aw,.aw,.int .i64 a,.int .i64 f,.str nu,.str de,.int .i64 t]=>decide (a=1)&&decide (f=0)&&List.beq nu []&&List.beq de []&&decide (t=0)
 |_=>false
theorem Dz{cs:List AV}(h:Hy cs=true):cs=UU:=by
 unfold Hy at h
 split at h
 ·simp only[bf,bn]at h
  obtain⟨⟨⟨⟨rfl,rfl⟩,a⟩,b⟩,rfl⟩:=h
  cases eq_of_beq (α:=List UInt8) a
  cases eq_of_beq (α:=List UInt8) b
  rfl
 ·cases h
def xx(f:Nat->List AV)(i:Nat):Bool:=match f i with
 |[.int .i64 a0,.int .i64 a1,.int .i64 a2,.int .i64 a3,.int .i64 a4,.int .i64 a5,.int .i64 a,.int .i64 b,.int .i64 c,.int .i64 a9,.str n,.str d]=>decide ((⟨a0,a1,a2,a3,a4,a5,a,b,c,a9⟩:ay)=ur i)&&List.beq n [49]&&List.beq d [50]
 |_=>false
theorem tB{f:Nat->List AV}{i:Nat}(h:xx f i=true):bt.le (λl=>l) (f i) (Bn i):=by
 unfold xx at h
 split at h
 ·rename_i a0 a1 a2 g a4 j k m o p n d e
  simp only[bf,bn]at h
  obtain⟨⟨a,b⟩,c⟩:=h
  cases eq_of_beq (α:=List UInt8) b
  cases eq_of_beq (α:=List UInt8) c
  rw[e]
  unfold Bn
  rw[<-a]
  exact⟨⟨rfl,rfl⟩,⟨rfl,rfl⟩,⟨rfl,rfl⟩,⟨rfl,rfl⟩,⟨rfl,rfl⟩,⟨rfl,rfl⟩,⟨rfl,rfl⟩,⟨rfl,rfl⟩,⟨rfl,rfl⟩,⟨rfl,rfl⟩,rfl,rfl,trivial⟩
 ·cases h
noncomputable def zo:aC PP II:=aC.J0 23
 (λX args a=>match args with
  |[.agg cs,.ab 3 12 f]=>X.ak (Hy cs&&xx f 0&&xx f 1&&xx f 2) (a (OA [54] [49,56]))
  |_=>X.fail)
 λX sem hX args a h=>by
  split at h
  ·rename_i cs f
   obtain⟨b,c⟩:=hX.ak _ _ h
   simp only[bf]at b
   obtain⟨⟨⟨d,e⟩,g⟩,j⟩:=b
   cases Dz d
   refine⟨_,c,λ_=>rfl,λ_=>rfl,af.dA F0 ⟨trivial,trivial,⟨rfl,rfl⟩,⟨rfl,rfl⟩,rfl,rfl,⟨rfl,rfl⟩,trivial⟩ ⟨rfl,rfl,λi hi=>?_⟩⟩
   match i,hi with
   |0,_=>exact tB e
   |1,_=>exact tB g
   |2,_=>exact tB j
   |i+3,h=>exact absurd h O
  ·exact zS
noncomputable def OC:aC PP II:=aC.J0 27
 (λX args a=>match args with
  |[.ab 3 10 f]=>X.ak (Vr f) (a UX)
  |_=>X.fail)
 λX sem hX args a h=>by
  split at h
  ·obtain⟨b,c⟩:=hX.ak _ _ h
   exact⟨_,c,λ_=>rfl,λ_=>rfl,Rx.dq ⟨Bk b,trivial⟩⟩
  ·exact zS
noncomputable def xy:aC PP II:=aC.J0 28
 (λX args b=>match args with
  |[.agg cs,.agg [.ab 1 10 f]]=>X.ak (Hy cs&&Bo f) (b (OA [51] [48]))
  |_=>X.fail)
 λX sem hX args b h=>by
  split at h
  ·rename_i cs f
   obtain⟨a,c⟩:=hX.ak _ _ h
   simp only[bf]at a
   cases Dz a.1
   exact⟨_,c,λ_=>rfl,λ_=>rfl,af.dA Dy ⟨trivial,trivial,⟨rfl,rfl⟩,⟨rfl,rfl⟩,rfl,rfl,⟨rfl,rfl⟩,trivial⟩ ⟨zn a.2 _,trivial⟩⟩
  ·exact zS
noncomputable def Xa:Bool:=true&&FY (Hm.get 0) (Hm.get 1) (Hm.get 2) (Hm.get 3) (Hm.get 6) (Hm.get 9) (Hm.get 10) (Hm.get 13)
theorem OD(R:Bool->AV->Prop):jE [S5,Hu,W4,zo,OC,xy] (mG PP II []) 1000 10 [] Hm (λa H=>R (ye H) a) (λ_ _=>False)=aa Xa (aa Xa (aa Xa (R Xa (.bool true)))):=U
theorem Ry:af PP II 10 [] Hm (.ret (.bool true) Hm):=by
 have ht:Xa=true:=Bl A A A A A A A A
 obtain⟨o,c,d⟩:=fJ iw [S5,Hu,W4,zo,OC,xy] (bm PP II []) 1000 10 [] Hm (λa H=>aa (ye H) (a= .bool true)) (λ_ _=>False) (by
  rw[OD λb a=>aa b (a= .bool true)]
  exact Ze ht (Ze ht (Ze ht (Ze ht A))))
 cases o with
 |ret a H1=>
  obtain⟨e,k1⟩:=Zk c
  have k1:a= .bool true:=k1
  subst k1
  exact d.le (ky.of [] (tA e) A)
 |qt a H1=>exact c.elim
noncomputable def S7:aC PP II:=aC.J0 10
 (λX args a=>match args with
  |[]=>a (.bool true)
  |_=>X.fail)
 λX sem hX args a h=>by
  split at h
  ·exact⟨_,h,λ_=>rfl,λ_=>rfl,Ry⟩
  ·exact zS
end Go.Sx
end
section
set_option maxRecDepth 1000000
namespace Go.Sx
open Go
theorem J1(m:Nat)(C:Nat->Nat->Int)(agg g top:Int)(Q:AV->Prop):(kb [GU] [] 11 [.agg [.int .i64 agg,.ab m 3 (au C),.int .i64 g,.int .i64 top]] Q)=(aa (decide (0<=if 3<Int.ofNat m then 3 else Int.ofNat m)&&decide ((if 3<Int.ofNat m then 3 else Int.ofNat m)<=Int.ofNat m)) (aa ((aI 3 (Int.toNat ((if 3<Int.ofNat m then 3 else Int.ofNat m)-0)) λi=>au C (0+i))&&aN .i64 agg&&aN .i64 g&&aN .i64 top) (Q (AV.agg [AV.ab (Query.nw (cJ agg (Int.toNat ((if 3<Int.ofNat m then 3 else Int.ofNat m)-0)) (bG λi=>au C (0+i)) g top)) 3 (au (Query.C (cJ agg (Int.toNat ((if 3<Int.ofNat m then 3 else Int.ofNat m)-0)) (bG λi=>au C (0+i)) g top))),AV.ab (Query.ng (cJ agg (Int.toNat ((if 3<Int.ofNat m then 3 else Int.ofNat m)-0)) (bG λi=>au C (0+i)) g top)) 1 (aR (Query.G (cJ agg (Int.toNat ((if 3<Int.ofNat m then 3 else Int.ofNat m)-0)) (bG λi=>au C (0+i)) g top))),AV.int .i64 (Query.a (cJ agg (Int.toNat ((if 3<Int.ofNat m then 3 else Int.ofNat m)-0)) (bG λi=>au C (0+i)) g top)),AV.int .i64 (Query.fl (cJ agg (Int.toNat ((if 3<Int.ofNat m then 3 else Int.ofNat m)-0)) (bG λi=>au C (0+i)) g top)),AV.str (Query.nu (cJ agg (Int.toNat ((if 3<Int.ofNat m then 3 else Int.ofNat m)-0)) (bG λi=>au C (0+i)) g top)),AV.str (Query.de (cJ agg (Int.toNat ((if 3<Int.ofNat m then 3 else Int.ofNat m)-0)) (bG λi=>au C (0+i)) g top)),AV.int .i64 (Query.top (cJ agg (Int.toNat ((if 3<Int.ofNat m then 3 else Int.ofNat m)-0)) (bG λi=>au C (0+i)) g top))])))):=U
theorem J2{m:Nat}{C:Nat->Nat->Int}{agg g top:Int}(h:aI 3 m (au C)=true)(ha:aN .i64 agg=true)(a:aN .i64 g=true)(ht:aN .i64 top=true):
  af PP II 11 [.agg [.int .i64 agg,.ab m 3 (au C),.int .i64 g,.int .i64 top]] (AH.blank 12) (.ret (.agg (aY (cJ agg (min m 3) (bG (au C)) g top))) (AH.blank 12)):=by
 refine bY (ks:=[GU]) (T:=[]) (λσ=>iY _ σ) ?_
 rw[J1]
 have e:Int.ofNat m=(m:Int):=rfl
 have b:Int.toNat ((if 3<Int.ofNat m then 3 else Int.ofNat m)-0)=min m 3:=by split<;>omega
 have c:(λi=>au C (0+i))=au C:=funext λi=>by rw[Nat.zero_add]
 rw[b,c,ha,a,ht]
 have d:aI 3 (min m 3) (au C)=true:=List.all_eq_true.2 λi hi=>List.all_eq_true.1 h i (List.mem_range.2 (by have:=List.mem_range.1 hi;omega))
 rw[d]
 exact cC _ _ (by split<;>simp only[bf,bn]<;>omega) (cC _ _ A A)
open Classical in
noncomputable def tC(q:Query)(agg:Int)(m:Nat)(f:Nat->List AV)(g top:Int):Bool:=decide (cJ agg (min m 3) (bG f) g top=q)
open Classical in
theorem J3{q:Query}{agg:Int}{m:Nat}{f:Nat->List AV}{g top:Int}(h:cJ agg (min m 3) (bG f) g top=q):tC q agg m f g top=true:=by
 unfold tC
 exact bW h
open Classical in
theorem J4{q:Query}{agg:Int}{m:Nat}{f:Nat->List AV}{g top:Int}(h:tC q agg m f g top=true):cJ agg (min m 3) (bG f) g top=q:=by
 unfold tC at h
 exact pT h
noncomputable def OE(q:Query):aC PP II:=aC.pure 11
 (λX args c=>match args with
  |[.agg [.int .i64 agg,.ab m 3 f,.int .i64 g,.int .i64 top]]=>X.ak (aI 3 m f&&aN .i64 agg&&aN .i64 g&&aN .i64 top&&tC q agg m f g top) (c (.agg (aY q)))
  |_=>X.fail)
 λX sem hX args c h=>by
  split at h
  ·rename_i agg m f g top
   obtain⟨d,l⟩:=hX.ak _ _ h
   simp only[bf]at d
   obtain⟨⟨⟨⟨a1,a2⟩,n⟩,a4⟩,o⟩:=d
   have e:=J4 o
   have k:∀j,j<m->f j=au (bG f) j:=λj a=>(nP (c7 a1 a)).1
   have b:aI 3 m (au (bG f))=true:=List.all_eq_true.2 λj a=>by rw[<-k j (List.mem_range.1 a)];exact c7 a1 (List.mem_range.1 a)
   have:=J2 (agg:=agg) (g:=g) (top:=top) b a2 n a4
   have p:cJ agg (min m 3) (bG (au (bG f))) g top=q:=by
    rw[<-e]
    unfold cJ
    rw[SK]
   rw[p]at this
   refine⟨_,l,λ_=>rfl,λ_=>rfl,this.dq ⟨⟨⟨rfl,rfl⟩,⟨rfl,rfl,λi hi=>?_⟩,⟨rfl,rfl⟩,⟨rfl,rfl⟩,trivial⟩,trivial⟩⟩
   rw[k i hi];exact jq (bG f) _ i
  ·exact zS
open Classical in
noncomputable def zp(k:Nat)(F:Nat->ay)(n:Nat)(f:Nat->List AV):Bool:=decide (mZ n (bG f)=k/\oW n (bG f)=F)
open Classical in
theorem OF{k:Nat}{F:Nat->ay}{n:Nat}{f:Nat->List AV}(h:zp k F n f=true):mZ n (bG f)=k/\oW n (bG f)=F:=by
 unfold zp at h
 exact pT h
open Classical in
theorem OG{k:Nat}{F:Nat->ay}{n:Nat}{f:Nat->List AV}(h:mZ n (bG f)=k)(a:oW n (bG f)=F):zp k F n f=true:=by
 unfold zp
 exact bW ⟨h,a⟩
noncomputable def Hz(k:Nat)(F:Nat->ay):aC PP II:=aC.pure 12
 (λX args a=>match args with
  |[.ab n 6 f]=>X.ak (aI 6 n f&&zp k F n f) (a (cm k F))
  |_=>X.fail)
 λX sem hX args a h=>by
  split at h
  ·rename_i n f
   obtain⟨b,c⟩:=hX.ak _ _ h
   rw[bf]at b
   obtain⟨a1,a2⟩:=b
   obtain⟨d,e⟩:=OF a2
   have:=Dq (X:=bG f) λj g=>(u7 (c7 a1 g)).2
   rw[d,e]at this
   refine⟨_,c,λ_=>rfl,λ_=>rfl,this.dq ⟨⟨rfl,rfl,λi hi=>?_⟩,trivial⟩⟩
   rw[(u7 (c7 a1 hi)).1]
   exact⟨⟨rfl,rfl⟩,⟨rfl,rfl⟩,⟨rfl,rfl⟩,⟨rfl,rfl⟩,⟨rfl,rfl⟩,⟨rfl,rfl⟩,trivial⟩
  ·exact zS
open Classical in
noncomputable def zr(D:Nat->Int)(F:Nat->ay)(n:Nat)(g:Nat->List AV):Bool:=decide (mY F n (aM g)=D)
open Classical in
theorem OH{D:Nat->Int}{F:Nat->ay}{n:Nat}{g:Nat->List AV}(h:zr D F n g=true):mY F n (aM g)=D:=by
 unfold zr at h
 exact pT h
open Classical in
theorem OI{D:Nat->Int}{F:Nat->ay}{n:Nat}{g:Nat->List AV}(h:mY F n (aM g)=D):zr D F n g=true:=by
 unfold zr
 exact bW h
noncomputable def S8(D:Nat->Int):aC PP II:=aC.pure 15
 (λX args b=>match args with
  |[.ab k 10 f,.ab n 1 g]=>X.ak (fh k f&&Dl k f&&intsIn n g&&Nat.ble k 1000000&&zr D (bP f) n g) (b (.ab k 1 (ae D)))
  |_=>X.fail)
 λX sem hX args b h=>by
  split at h
  ·obtain⟨c,d⟩:=hX.ak _ _ h
   simp only[intsIn,bf]at c
   obtain⟨⟨⟨⟨a1,a2⟩,e,i⟩,a4⟩,l⟩:=c
   rw[<-OH l]at d
   refine⟨_,d,λ_=>rfl,λ_=>rfl,af.dA (Oe (λj a=>?_) (λj a=>List.all_eq_true.1 i j (List.mem_range.2 a)) (jX a4)) (fq a1) (cy e)⟩
   have:=List.all_eq_true.1 a2 j (List.mem_range.2 a)
   simp only[bf,bn]at this
   exact⟨this.1.1,this.1.2,this.2⟩
  ·exact zS
end Go.Sx
end
section
set_option maxRecDepth 1000000
namespace Go.Sx
open Go
def tL(g b c:Nat)(d e:Nat->Nat->Int)(f SB:Nat->Nat->List UInt8)(a i:Int):Tr AV:=Tr.ofList [(7,.bool true),(10,.ab b 9 (aX g d f)),(12,.ab c 9 (aX g e SB)),(14,.int .i64 a),(15,.int .i64 i)]
noncomputable def hL:AH:={n:=27,t:=Tr.ofList [(6,.cells dz (.ex 20))]}
noncomputable def Rz(g b c:Nat)(d e:Nat->Nat->Int)(f SB:Nat->Nat->List UInt8)(a:Int->Int)(i:Int):St:={t:=tL g b c d e f SB (a i) i,nt:=124,H:=hL,df:=[]}
noncomputable def RA:GE:=.one (.x 0 {t:=Tr.ofList [(7,.bool true)],nt:=124,H:=hL,df:=[]})
noncomputable def RB(g a b:Nat)(c d:Nat->Nat->Int)(e SB:Nat->Nat->List UInt8)(i:Int)(j:Int):St:={t:=tL g a b c d e SB j i,nt:=124,H:=hL,df:=[]}
noncomputable def RC(g b c:Nat)(d e:Nat->Nat->Int)(f SB:Nat->Nat->List UInt8)(i a:Int):GE:=.one (.x 2 {t:=tL g b c d e f SB a i,nt:=124,H:=hL,df:=[]})
theorem RD(g b c:Nat)(d e:Nat->Nat->Int)(f SB:Nat->Nat->List UInt8)(i a j:Int)(Q:Prop):(kr [FR] [] 3 12018 27 (RB g b c d e f SB i) (λ_=>RC g b c d e f SB i a) (λj=>j+1) Q j)=(ah (decide (j<Int.ofNat b)) (aa (decide (0<=j)&&decide (j<Int.ofNat b)) (aa (decide (0<=i)&&decide (i<Int.ofNat c)) (aa (bA g (ae (d j.toNat))&&bA g (ae (e i.toNat))&&Nat.ble g 1000000&&Nat.beq g g) (ah (!A9 g (aM (ae (d j.toNat))) (aM (ae (e i.toNat)))) (aa (aN .i64 (j+1)) (zyI i (true=true/\zyN c (zyR c (aX g e SB) (zyN b (zyR b (aX g d f) (zyI (j+1) Q))))))) (zyI i (true=true/\zyN c (zyR c (aX g e SB) (zyN b (zyR b (aX g d f) (aH j a True)))))))))) (zyI i (true=true/\zyN c (zyR c (aX g e SB) (zyN b (zyR b (aX g d f) (aH j a True))))))):=U
theorem HA(g e d:Nat)(f h:Nat->Nat->Int)(c SB:Nat->Nat->List UInt8)(a:Int->Int)(b:Int)(i:Int)(Q:Prop):(kr [j8] [(12018,27,RB g e d f h c SB i (a i),RC g e d f h c SB i b)] 3 10004 27 (Rz g e d f h c SB a) (λ_=>RA) (λi=>i+1) Q i)=(ah (decide (i<Int.ofNat d)) (aE PP II false (aD II 3 12018) 27 (RB g e d f h c SB i (a i)) (RC g e d f h c SB i b)/\zyI i (true=true/\zyN d (zyR d (aX g h SB) (zyN e (zyR e (aX g f c) (zyI (a i) (ah (decide (b=Int.ofNat e)) False (aa (decide (0<=i)&&decide (i<Int.ofNat d)) (aa (decide (0<=i)&&decide (i<Int.ofNat d)) (ah (!(List.beq (SB i.toNat 0) (SB i.toNat 2)&&(List.beq (SB i.toNat 1) (SB i.toNat 3)&&true))) False (aa (decide (0<=b)&&decide (b<Int.ofNat e)) (aa (decide (0<=i)&&decide (i<Int.ofNat d)) (aa (bJ (c b.toNat 0) (c b.toNat 1)&&bJ (SB i.toNat 0) (SB i.toNat 1)) (ah (decide (bw (ao (c b.toNat 0)) (ao (c b.toNat 1)) (ao (SB i.toNat 0)) (ao (SB i.toNat 1))>0)) False (aa (decide (0<=b)&&decide (b<Int.ofNat e)) (aa (decide (0<=i)&&decide (i<Int.ofNat d)) (aa (bJ (c b.toNat 2) (c b.toNat 3)&&bJ (SB i.toNat 0) (SB i.toNat 1)) (ah (decide (bw (ao (c b.toNat 2)) (ao (c b.toNat 3)) (ao (SB i.toNat 0)) (ao (SB i.toNat 1))<0)) False (aa (aN .i64 (i+1)) (zyI (i+1) (true=true/\zyN d (zyR d (aX g h SB) (zyN e (zyR e (aX g f c) (aH b (a (i+1)) Q))))))))))))))))))))))))) (true=true/\True)):=U
theorem RE(n:Nat)(X:Nat->Nat->Int)(m:Nat)(C:Nat->Nat->Int)(agg g top:Int)(w:Nat)(W:Nat->Int)(q:Query)(k:Nat)(F:Nat->ay)(D:Nat->Int)(c d:Nat)(e f:Nat->Nat->Int)(h SB:Nat->Nat->List UInt8)(b:Int->Int)(Q:AV->Prop):(jE [S7,OE q,Hz k F,S1 q,S8 D,Hp q] (mG PP II [(10004,27,Rz q.ng c d e f h SB b 0,RA)]) 1000 3 [.agg [.int .i64 agg,.ab m 3 (au C),.int .i64 g,.int .i64 top],.ab n 6 (fm X),.ab w 1 (ae W)] Hm (λa H=>aa (Nat.ble 14 H.n) (Q a)) (λ_ _=>False))=(aa (FY (ABlk.cells [AV.ab 5 2 aA] Access.ro) (ABlk.cells [AV.str [48],AV.str [49]] Access.ro) (ABlk.cells [AV.int .i64 7,AV.int .i64 9,AV.int .i64 11,AV.int .i64 99] Access.ro) (ABlk.cells [AV.map (some 13)] Access.ro) (ABlk.cells [AV.int .u64 1,AV.int .u64 10,AV.int .u64 100,AV.int .u64 1000,AV.int .u64 10000,AV.int .u64 100000,AV.int .u64 1000000,AV.int .u64 10000000,AV.int .u64 100000000,AV.int .u64 1000000000,AV.int .u64 10000000000,AV.int .u64 100000000000,AV.int .u64 1000000000000,AV.int .u64 10000000000000,AV.int .u64 100000000000000,AV.int .u64 1000000000000000,AV.int .u64 10000000000000000,AV.int .u64 100000000000000000,AV.int .u64 1000000000000000000,AV.int .u64 10000000000000000000] (Access.ex 20)) (ABlk.cells [AV.str [48],AV.str [49]] Access.ro) (ABlk.cells [AV.str [49],AV.str [49]] Access.ro) (ABlk.map lS)) (aa (aI 3 m (au C)&&aN .i64 agg&&aN .i64 g&&aN .i64 top&&tC q agg m (au C) g top) (aa (aI 6 n (fm X)&&zp k F n (fm X)) (aa ((qT q [AV.ab q.nw 3 (au q.C),AV.ab q.ng 1 (aR q.G),AV.int .i64 q.a,AV.int .i64 q.fl,AV.str q.nu,AV.str q.de,AV.int .i64 q.top]&&ct q&&fh k λi=>aF (F i))&&cX k (bP λi=>aF (F i))) (aa (((fh k λi=>aF (F i))&&Dl k λi=>aF (F i))&&intsIn w (ae W)&&Nat.ble k 1000000&&zr D (bP λi=>aF (F i)) w (ae W)) (aa ((decide (q.nw=q.nw)&&true&&List.all (List.range.loop q.nw []) λi=>decide (q.C i 0=q.C i 0)&&(decide (q.C i 1=q.C i 1)&&(decide (q.C i 2=q.C i 2)&&true)))&&((decide (q.ng=q.ng)&&true&&List.all (List.range.loop q.ng []) λi=>decide (q.G i=q.G i)&&true)&&(decide (q.a=q.a)&&(decide (q.fl=q.fl)&&(decide (q.nu=q.nu)&&(decide (q.de=q.de)&&(decide (q.top=q.top)&&true))))))) (aa ((qT q [AV.ab q.nw 3 (au q.C),AV.ab q.ng 1 (aR q.G),AV.int .i64 q.a,AV.int .i64 q.fl,AV.str q.nu,AV.str q.de,AV.int .i64 q.top]&&ct q&&fh k λi=>aF (F i))&&cX k (bP λi=>aF (F i))&&Nat.beq k k&&bA k (ae D)&&tp k (bP λi=>aF (F i)) (aM (ae D))) (ah (decide (q.top=0)) (ah (!decide (Int.ofNat (r8 q k (bP λi=>aF (F i)))=Int.ofNat (sb q k (bP λi=>aF (F i)) (aM (ae D))))) (Q (AV.bool false)) (aE PP II false (aD II 3 10004) 27 (Rz q.ng c d e f h SB b 0) RA/\true=true/\ax (sb q k (bP λi=>aF (F i)) (aM (ae D))) d (an (sb q k (bP λi=>aF (F i)) (aM (ae D))) (aX q.ng (FV q k (bP λi=>aF (F i)) (aM (ae D))) (xm q k (bP λi=>aF (F i)) (aM (ae D)))) (aX q.ng f SB)/\ax (r8 q k (bP λi=>aF (F i))) c (an (r8 q k (bP λi=>aF (F i))) (aX q.ng (FM q k (bP λi=>aF (F i))) (oU q k (bP λi=>aF (F i)))) (aX q.ng e h)/\aH 0 (b 0) (Q (AV.bool true)))))) (aE PP II false (aD II 3 10004) 27 (Rz q.ng c d e f h SB b 0) RA/\true=true/\ax (sb q k (bP λi=>aF (F i)) (aM (ae D))) d (an (sb q k (bP λi=>aF (F i)) (aM (ae D))) (aX q.ng (FV q k (bP λi=>aF (F i)) (aM (ae D))) (xm q k (bP λi=>aF (F i)) (aM (ae D)))) (aX q.ng f SB)/\ax (r8 q k (bP λi=>aF (F i))) c (an (r8 q k (bP λi=>aF (F i))) (aX q.ng (FM q k (bP λi=>aF (F i))) (oU q k (bP λi=>aF (F i)))) (aX q.ng e h)/\aH 0 (b 0) (Q (AV.bool true))))))))))))):=U
end Go.Sx
end
section
set_option maxRecDepth 1000000
namespace Go.Sx
open Go
structure Fits (g pn tn:Nat) (KA KB:Nat->Nat->Int) (SA SB:Nat->Nat->List UInt8) (a:Nat->Nat):Prop where
 lt:∀i,i<tn->a i<pn
 mono:∀i,i+1<tn->a i<=a (i+1)
 key:∀i,i<tn->A9 g (KA (a i)) (KB i)=true
 YM:∀i b,i<tn->b<a i->A9 g (KA b) (KB i)=false
 one:∀i,i<tn->SB i 2=SB i 0/\SB i 3=SB i 1
 ra:∀i,i<pn->bJ (SA i 0) (SA i 1)=true/\bJ (SA i 2) (SA i 3)=true
 rb:∀i,i<tn->bJ (SB i 0) (SB i 1)=true
 lo:∀i,i<tn->bw (ao (SA (a i) 0)) (ao (SA (a i) 1)) (ao (SB i 0)) (ao (SB i 1))<=0
 hi:∀i,i<tn->0<=bw (ao (SA (a i) 2)) (ao (SA (a i) 3)) (ao (SB i 0)) (ao (SB i 1))
def qP(Z:Nat->Nat)(i:Int):Int:=if i<=0 then 0 else(Z (i.toNat-1):Int)
theorem OJ(Z:Nat->Nat)(i:Nat):qP Z ((i:Int)+1)=Z i:=by
 unfold qP
 rw[if_neg O]
 rw[show((i:Int)+1).toNat-1=i by omega]
theorem RF{g b a:Nat}{c d:Nat->Nat->Int}{e SB:Nat->Nat->List UInt8}{Z:Nat->Nat}(h:Fits g b a c d e SB Z):∀i,i<a->0<=qP Z (i:Int)/\qP Z (i:Int)<=Z i
 |0,_=>⟨Int.le_refl _,Int.ofNat_nonneg _⟩
 |i+1,hi=>by
  have:=h.mono i hi
  rw[show((i+1:Nat):Int)=(i:Int)+1 from rfl,OJ]
  omega
theorem RG{g b d:Nat}{e f:Nat->Nat->Int}{k SB:Nat->Nat->List UInt8}{Z:Nat->Nat}(h:Fits g b d e f k SB Z)(q:g<=3)(r:b<=1000000)(i:Nat)(hi:i<d)(a:Int)(ha:0<=a/\a<=Z i):
  aE PP II false (aD II 3 12018) 27 (RB g b d e f k SB i a) (RC g b d e f k SB i (Z i)):=by
 have key:=aE.of (ι:=Int) iw [FR] (bm PP II []) 1000 (c:=aD II 3 12018) (ir:=false) 27 (λj=>0<=j/\j<=Z i) (λj=>RB g b d e f k SB i j) (λ_=>RC g b d e f k SB i (Z i)) (λj=>Z i-j.toNat) (λj=>j+1) a A ha λj m=>?_
 ·exact key
 obtain⟨s,t⟩:=m
 have u:=h.lt i hi
 show kr [FR] [] 3 12018 27 (RB g b d e f k SB i) (λ_=>RC g b d e f k SB i (Z i)) (λj=>j+1) _ j
 rw[RD]
 have v:Int.ofNat b=(b:Int):=rfl
 have w:Int.ofNat d=(d:Int):=rfl
 have n:Int.toNat (i:Int)=i:=rfl
 have l:=eP b g e k
 have tr:=eP d g f SB
 rw[n]
 refine Zg (λ_=>?_) λh=>absurd h O
 refine cC _ _ zF (cC _ _ zF (cC _ _ (by rw[kc,kc,kV (O:g<=1000000),ni];rfl) ?_))
 by_cases o:j=Z i
 ·have p:Int.toNat j=Z i:=by omega
  have kk:A9 g (aM (ae (e (Int.toNat j)))) (aM (ae (f i)))=true:=by rw[p];exact h.key i hi
  rw[kk]
  exact Zf A ⟨rfl,YG A ⟨tr,YG A ⟨l,Zf o trivial⟩⟩⟩
 ·have kk:A9 g (aM (ae (e (Int.toNat j)))) (aM (ae (f i)))=false:=h.YM i _ hi O
  rw[kk]
  refine cC _ _ (aq O O) (Zf A ⟨rfl,YG A ⟨tr,YG A ⟨l,Zf A ?_⟩⟩⟩)
  exact⟨O,O,rfl⟩
theorem OK{g b a:Nat}{c d:Nat->Nat->Int}{e SB:Nat->Nat->List UInt8}{Z:Nat->Nat}(h:Fits g b a c d e SB Z)(l:g<=3)(m:b<=1000000)(ht:a<=1000000)(i:Nat)(hi:i<a)(Q:Prop)(hQ:Q):
  kr [j8] [(12018,27,RB g b a c d e SB i (qP Z i),RC g b a c d e SB i (Z i))] 3 10004 27 (Rz g b a c d e SB (qP Z)) (λ_=>RA) (λi=>i+1) Q i:=by
 rw[HA]
 have n:=h.lt i hi
 have v:Int.ofNat b=(b:Int):=rfl
 have w:Int.ofNat a=(a:Int):=rfl
 have o:Int.toNat (i:Int)=i:=rfl
 have p:Int.toNat (Z i:Int)=Z i:=rfl
 have j:=eP b g c e
 have tr:=eP a g d SB
 have lp:=RG h l m i hi (qP Z i) (RF h i hi)
 rw[o,p]
 have f:(decide ((0:Int)<=i)&&decide ((i:Int)<Int.ofNat a))=true:=by simp only[bf,bn];omega
 have k:(decide ((0:Int)<=Z i)&&decide ((Z i:Int)<Int.ofNat b))=true:=by simp only[bf,bn];omega
 obtain⟨q,r⟩:=h.one i hi
 obtain⟨r1,s⟩:=h.ra (Z i) n
 have t:=h.rb i hi
 have hl:=h.lo i hi
 have x:=h.hi i hi
 have u:(List.beq (SB i 0) (SB i 2)&&(List.beq (SB i 1) (SB i 3)&&true))=true:=by
  rw[q,r,show List.beq (SB i 0) (SB i 0)=true from beq_self_eq_true (SB i 0),show List.beq (SB i 1) (SB i 1)=true from beq_self_eq_true (SB i 1)];rfl
 refine Zg (λ_=>⟨lp,Zf A ⟨rfl,YG A ⟨tr,YG A ⟨j,Zf A (Zg (λh=>absurd h O) λ_=>cC _ _ f (cC _ _ f ?_))⟩⟩⟩⟩) λh=>absurd h O
 rw[u,r1,s,t]
 refine cC _ _ k (cC _ _ f (cC _ _ A (Zg (λh=>absurd h O) λ_=>cC _ _ k (cC _ _ f (cC _ _ A (Zg (λh=>absurd h O) λ_=>cC _ _ (aq O O) (Zf A ⟨rfl,YG A ⟨tr,YG A ⟨j,Zf (OJ Z i).symm hQ⟩⟩⟩)))))))
theorem UY{g e d:Nat}{f j:Nat->Nat->Int}{k SB:Nat->Nat->List UInt8}(b:Int->Int)(a c:Int)(i:Int)(hi:i=(d:Int))(Q:Prop):
  kr [j8] [(12018,27,RB g e d f j k SB i (b i),RC g e d f j k SB i c)] 3 10004 27 (Rz g e d f j k SB b) (λ_=>RA) (λi=>i+1) Q i:=by
 rw[HA]
 have l:Int.ofNat d=(d:Int):=rfl
 exact Zg (λh=>absurd h O) λ_=>⟨rfl,trivial⟩
theorem RH{g b a:Nat}{d e:Nat->Nat->Int}{f SB:Nat->Nat->List UInt8}{Z:Nat->Nat}(h:Fits g b a d e f SB Z)(j:g<=3)(k:b<=1000000)(ht:a<=1000000):
  aE PP II false (aD II 3 10004) 27 (Rz g b a d e f SB (qP Z) 0) RA:=by
 have key:=aE.Vk (ι:=Nat) iw [j8] 1000 (λi=>[(12018,27,RB g b a d e f SB i (qP Z i),RC g b a d e f SB i (Z i))]) (c:=aD II 3 10004) (ir:=false) 27 (λi=>i<=a) (λi=>Rz g b a d e f SB (qP Z) (i:Int)) (λ_=>RA) (λi=>a-i) (λi=>i+1) 0 A (Nat.zero_le _) λi hi=>?_
 ·exact key
 have hi:i<=a:=hi
 by_cases l:i<a
 ·exact OK h j k ht i l _ ⟨O,O,rfl⟩
 ·exact UY (qP Z) 0 _ i O _
end Go.Sx
end
section
set_option maxRecDepth 100000
namespace Go.Sx
open Go Go.Sort Go.Shelf Go.Proofs
theorem OL(p:Nat->Bool)(k:Nat):((List.range k).filter p).Pairwise (· < ·):=List.Pairwise.filter p List.pairwise_lt_range
theorem tD{p:Nat->Bool}{k j:Nat}(a:j<aP p k):∃h:j<((List.range k).filter p).length,eQ p k j=((List.range k).filter p)[j]:=⟨a,by
 unfold eQ
 rw[List.getD_eq_getElem?_getD,mo a];rfl⟩
theorem DA{p:Nat->Bool}{k j:Nat}(a:j<aP p k):eQ p k j<k/\p (eQ p k j)=true:=by
 obtain⟨h,e⟩:=tD a
 have:=List.getElem_mem h
 rw[<-e]at this
 obtain⟨b,c⟩:=List.mem_filter.1 this
 exact⟨List.mem_range.1 b,c⟩
theorem DB{p:Nat->Bool}{k i j:Nat}(a:j<aP p k)(hi:i<j):eQ p k i<eQ p k j:=by
 obtain⟨h,e⟩:=tD a
 obtain⟨b,c⟩:=tD (O:i<aP p k)
 rw[e,c]
 exact List.pairwise_iff_getElem.1 (OL p k) i j b h hi
theorem J5(p:Nat->Bool)(k m:Nat):aP p k<=aP p (k+m):=by
 unfold aP
 rw[List.range_add,List.filter_append,List.length_append]
 exact Nat.le_add_right _ _
theorem zu{p:Nat->Bool}{k m:Nat}(h:k<=m):aP p k<=aP p m:=by
 have:=J5 p k (m-k)
 rwa[show k+(m-k)=m by omega]at this
theorem RJ{p:Nat->Bool}{k m:Nat}(a:m<k)(h:p m=true):aP p m<aP p k:=by
 have:=zu (p:=p) (O:m+1<=k)
 rw[iE h]at this
 omega
theorem OM{p r:Nat->Bool}{k:Nat}(h:∀i,i<k->p i=true->r i=true):aP p k<=aP r k:=by
 unfold aP
 rw[<-List.countP_eq_length_filter,<-List.countP_eq_length_filter]
 exact List.countP_mono_left λi hi=>h i (List.mem_range.1 hi)
def il(q:Query)(m:Nat)(S:Nat->Nat->List UInt8)(i:Nat):Bool:=if q.top=0 then true else cQ q m S i
theorem DC(k:Nat):aP (λ_=>true) k=k:=by
 unfold aP
 rw[List.filter_eq_self.2 λ_ _=>rfl,List.length_range]
theorem J6{k j:Nat}(a:j<k):eQ (λ_=>true) k j=j:=by
 have:=wS (p:=λ_=>true) a A
 rwa[DC]at this
theorem xz(q:Query)(m:Nat)(S:Nat->Nat->List UInt8):ju q m S=aP (il q m S) m:=by
 unfold ju
 by_cases h:q.top=0
 ·rw[if_pos h,show il q m S=λ_=>true from funext λi=>if_pos h,DC]
 ·rw[if_neg h,show il q m S=cQ q m S from funext λi=>if_neg h]
theorem nX(q:Query)(m:Nat)(S:Nat->Nat->List UInt8){j:Nat}(a:j<ju q m S):cS q m S j=eQ (il q m S) m j:=by
 unfold ju at a
 unfold cS
 by_cases h:q.top=0
 ·rw[if_pos h]at a⊢
  rw[show il q m S=λ_=>true from funext λi=>if_pos h,J6 a]
 ·rw[if_neg h,show il q m S=cQ q m S from funext λi=>if_neg h]
theorem ON{q:Query}{m:Nat}{S T:Nat->Nat->List UInt8}(h:∀i a,i<m->a<m->xY S i a=true->xY T i a=true)(i:Nat)(hi:i<m)(k:il q m T i=true):il q m S i=true:=by
 unfold il at*
 by_cases e:q.top=0
 ·rw[if_pos e]
 ·rw[if_neg e]at k⊢
  unfold cQ at*
  rw[bn]at k⊢
  have:=OM (p:=xY S i) (r:=xY T i) (k:=m) λa ha=>h i a hi ha
  omega
theorem RL{q:Query}{m:Nat}{K:Nat->Nat->Int}{S T b d:Nat->Nat->List UInt8}
  (apart:∀i j,i<m->j<m->i≠j->A9 q.ng (K i) (K j)=false)
  (t:∀i,i<m->bJ (S i 0) (S i 1)=true/\bJ (S i 2) (S i 3)=true) (ht:∀i,i<m->bJ (T i 0) (T i 1)=true) (one:∀i,T i 2=T i 0/\T i 3=T i 1)
  (n:∀i,i<m->lY (tv (S i 0,S i 1)) (tv (T i 0,T i 1))/\lY (tv (T i 0,T i 1)) (tv (S i 2,S i 3)))
  (r:∀i,b i 0=S i 0/\b i 1=S i 1/\b i 2=S i 2/\b i 3=S i 3) (s:∀i,d i 0=T i 0/\d i 1=T i 1/\d i 2=T i 2/\d i 3=T i 3):
  Fits q.ng (ju q m b) (ju q m d) (λj=>K (cS q m b j)) (λj=>K (cS q m d j)) (λj=>S (cS q m b j)) (λj=>T (cS q m d j)) (λi=>aP (il q m b) (cS q m d i)):=by
 have pos:∀i,i<m->0<(tv (T i 0,T i 1)).2:=λi hi=>by
  have:=ht i hi
  unfold bJ at this
  simp only[bf]at this
  have:=this.1.2
  rw[Nat.blt_eq]at this
  exact this
 have sub:∀i,i<m->il q m d i=true->il q m b i=true:=ON λi a hi ha h=>by
  unfold xY at*
  obtain⟨s0,u,_,_⟩:=r a
  obtain⟨_,_,v,w⟩:=r i
  obtain⟨x,t1,_,_⟩:=s a
  obtain⟨_,_,t2,y⟩:=s i
  obtain⟨C,D⟩:=one i
  rw[s0,u,v,w]at h
  rw[x,t1,t2,y,C,D]
  rw[bn]at h⊢
  refine Int.not_le.1 λc=>absurd (xw.2 ?_) (Int.not_le.2 h)
  exact lY.trans (pos a ha) (n a ha).1 (lY.trans (pos i hi) (xw.1 c) (n i hi).2)
 have f:∀i,i<ju q m d->cS q m d i<m/\il q m b (cS q m d i)=true:=λi hi=>by
  have h:=hi
  rw[xz]at h
  have:=DA h
  rw[<-nX q m d hi]at this
  exact⟨this.1,sub _ this.1 this.2⟩
 have l:∀i,i<ju q m b->cS q m b i<m:=λi hi=>by
  have h:=hi
  rw[xz]at h
  rw[nX q m b hi]
  exact(DA h).1
 have k:∀i,i<ju q m d->aP (il q m b) (cS q m d i)<ju q m b:=λi hi=>by
  rw[xz q m b]
  exact RJ (f i hi).1 (f i hi).2
 have g:∀i,i<ju q m d->cS q m b (aP (il q m b) (cS q m d i))=cS q m d i:=λi hi=>by
  rw[nX q m b (k i hi)]
  exact wS (f i hi).1 (f i hi).2
 exact {
  lt:=k
  mono:=λi hi=>by
   refine zu (Nat.le_of_lt ?_)
   have h:=hi
   rw[xz]at h
   rw[nX q m d hi,nX q m d (O:i<ju q m d)]
   exact DB h (Nat.lt_succ_self i)
  key:=λi hi=>by
   show A9 q.ng (K (cS q m b (aP (il q m b) (cS q m d i)))) (K (cS q m d i))=true
   rw[g i hi]
   exact List.all_eq_true.2 λ_ _=>bW A
  YM:=λi j hi E=>by
   have o:=k i hi
   have p:j<aP (il q m b) (cS q m d i):=E
   have e:=g i hi
   refine apart _ _ (l j O) (f i hi).1 λc=>?_
   rw[<-e,nX q m b o,nX q m b (O:j<ju q m b)]at c
   rw[xz]at o
   have:=DB o p
   omega
  one:=λi hi=>one _
  ra:=λi hi=>t _ (l i hi)
  rb:=λi hi=>ht _ (f i hi).1
  lo:=λi hi=>by
   show bw (ao (S (cS q m b (aP (il q m b) (cS q m d i))) 0)) (ao (S (cS q m b (aP (il q m b) (cS q m d i))) 1)) _ _<=0
   rw[g i hi]
   exact xw.2 (n _ (f i hi).1).1
  hi:=λi hi=>by
   show 0<=bw (ao (S (cS q m b (aP (il q m b) (cS q m d i))) 2)) (ao (S (cS q m b (aP (il q m b) (cS q m d i))) 3)) _ _
   rw[g i hi]
   exact FW.2 (n _ (f i hi).1).2}
theorem J7{q:Query}{k:Nat}{F:Nat->ay}(i j:Nat)(hi:i<(aV q F k).length)(l:j<(aV q F k).length)(b:i≠j):
  A9 q.ng (dK (og q (aV q F k)) i) (dK (og q (aV q F k)) j)=false:=by
 have c:=tj q F k
 have pl:=Dd q.ng (aV q F k).length (fj q.ng (aV q F k))
 have f:=u4 q.ng (aV q F k).length (fj q.ng (aV q F k)) hi
 have g:=u4 q.ng (aV q F k).length (fj q.ng (aV q F k)) l
 have nd:(lW q.ng (aV q F k).length (fj q.ng (aV q F k))).Nodup:=((List.mergeSort_perm _ _).nodup_iff).2 List.nodup_range
 have m:(lW q.ng (aV q F k).length (fj q.ng (aV q F k))).getD i 0≠(lW q.ng (aV q F k).length (fj q.ng (aV q F k))).getD j 0:=λe=>by
  rw[List.getD_eq_getElem?_getD,List.getD_eq_getElem?_getD,mo (O:i<_),mo (O:j<_)]at e
  rcases Nat.lt_or_gt_of_ne b with h|h
  ·exact List.pairwise_iff_getElem.1 nd i j O O h e
  ·exact List.pairwise_iff_getElem.1 nd j i O O h e.symm
 cases he:A9 q.ng (dK (og q (aV q F k)) i) (dK (og q (aV q F k)) j)with
 |false=>rfl
 |true=>
  refine absurd ?_ (c.apart _ _ f g m)
  have n:∀a,a<q.ng->(og q (aV q F k) i).W a=(og q (aV q F k) j).W a:=λa ha=>pT (List.all_eq_true.1 he a (List.mem_range.2 ha))
  rw[c.key _ f,c.key _ g]
  have d:∀a,(bif Nat.blt a q.ng then(og q (aV q F k) i).W a else 0)=bif Nat.blt a q.ng then(og q (aV q F k) j).W a else 0:=λa=>by
   cases h:Nat.blt a q.ng with
   |false=>rfl
   |true=>rw[Nat.blt_eq]at h;exact n a h
  show [bif Nat.blt 0 q.ng then(og q (aV q F k) i).W 0 else 0,bif Nat.blt 1 q.ng then(og q (aV q F k) i).W 1 else 0,bif Nat.blt 2 q.ng then(og q (aV q F k) i).W 2 else 0]=[bif Nat.blt 0 q.ng then(og q (aV q F k) j).W 0 else 0,bif Nat.blt 1 q.ng then(og q (aV q F k) j).W 1 else 0,bif Nat.blt 2 q.ng then(og q (aV q F k) j).W 2 else 0]
  rw[d 0,d 1,d 2]
def Xv(q:Query)(k:Nat)(F:Nat->ay)(D:Nat->Int)(i:Nat):Nat:=aP (il q (aV q F k).length (yc q (og q (aV q F k)))) (cS q (aV q F k).length (Bf q F D (og q (aV q F k))) i)
theorem contains{q:Query}{k:Nat}{F:Nat->ay}{D:Nat->Int}(g:ct q=true)(b:cX k F=true)(c:r9 k F D):
  Fits q.ng (r8 q k F) (sb q k F D) (FM q k F) (FV q k F D) (oU q k F) (xm q k F D) (Xv q k F D):=by
 have d:=jR b
 have a:=(eb g).2.2
 have hX:=tm a b
 have e:∀i,i<(aV q F k).length->oc q F k (og q (aV q F k) i):=λi hi=>Ho q F k hi
 refine RL (K:=dK (og q (aV q F k))) (S:=jC q (og q (aV q F k))) (T:=jy q F D (og q (aV q F k))) J7 (λi hi=>?_) (λi hi=>?_) (λi=>⟨rfl,rfl⟩) (λi hi=>?_) (λi=>⟨rfl,rfl,rfl,rfl⟩) λi=>⟨rfl,rfl,rfl,rfl⟩
 ·obtain⟨f,h,j⟩:=hX i hi
  exact⟨y7 f h a,y8 f j a⟩
 ·exact cz (xl a d c (e i hi) (hX i hi).1) a
 ·exact Rp a d c (e i hi)
end Go.Sx
end
section
set_option maxRecDepth 1000000
namespace Go.Sx
open Go
theorem uu(X:Nat->Nat->Int)(j:Nat):(1<=cW X j 0/\cW X j 0<=8)/\(1<=cW X j 1/\cW X j 1<=4)/\(-1<=cW X j 2/\cW X j 2<=38):=by
 have a:=cj (c:=X j 0) (n:=11) O
 have b:=cj (c:=X j 1) (n:=4) O
 have d:=cj (c:=X j 2) (n:=40) O
 refine⟨?_,?_,?_⟩
 ·show 1<=ma (X j 0)/\ma (X j 0)<=8
  unfold ma
  split
  ·omega
  ·rename_i h;have:=of_decide_eq_false h;omega
 ·show 1<=1+av (X j 1) 4/\1+av (X j 1) 4<=4;omega
 ·show -1<=av (X j 2) 40-1/\av (X j 2) 40-1<=38;omega
theorem xA{l m:List Int}{i:Nat}{d:Int}(h:i<l.length):(l++m).getD i d=l.getD i d:=by
 rw[List.getD_eq_getElem?_getD,List.getD_eq_getElem?_getD,List.getElem?_append_left h]
theorem qQ(p:Int):∀(k i:Nat),i<(bM p k).length->(1<=(bM p k).getD i 0/\(bM p k).getD i 0<=(k:Int))/\(i=0∨(bM p k).getD (i-1) 0<(bM p k).getD i 0)
 |0,i,h=>by simp[bM]at h
 |k+1,i,h=>by
  have b:=qQ p k
  unfold bM at h⊢
  split at h
  ·rename_i c
   simp only[List.length_append,List.length_singleton]at h
   by_cases e:i<(bM p k).length
   ·have:=b i e
    rw[xA e]
    refine⟨O,?_⟩
    rcases this.2 with a|a
    ·exact .inl a
    ·right;rw[xA O];exact a
   ·have d:i=(bM p k).length:=by omega
    have el:(bM p k++[(k:Int)+1]).getD i 0=(k:Int)+1:=by
     rw[d,List.getD_eq_getElem?_getD,List.getElem?_append_right (dw _),Nat.sub_self];rfl
    rw[el]
    refine⟨O,?_⟩
    by_cases a:i=0
    ·exact .inl a
    ·right
     have:=b (i-1) O
     rw[xA O]
     omega
  ·rename_i c
   have:=b i h
   refine⟨O,this.2⟩
theorem OO{k:Nat}(h:k<11):oa (wy k) (wz k)=true:=List.any_eq_true.2 ⟨k,List.mem_range.2 h,zB⟩
theorem OP(agg:Int)(n:Nat)(X:Nat->Nat->Int)(g top:Int):eU (cJ agg n X g top)=true:=by
 have k:=qQ (av g 64) 6
 have hl:=rH (av g 64) 6
 have s:=cj (c:=agg) (n:=5) O
 have t:=cj (c:=Int.tdiv agg 5) (n:=2) O
 have l:=cj (c:=Int.tdiv agg 10) (n:=11) O
 have ht:=cj (c:=top) (n:=5) O
 unfold eU
 simp only[bf,bn]
 refine⟨⟨⟨⟨⟨?_,hl⟩,?_⟩,?_⟩,?_⟩,?_⟩
 ·show min n 6<=6;omega
 ·refine List.all_eq_true.2 λj _=>?_
  have:=uu X j
  show(decide (1<=cW X j 0)&&decide (cW X j 0<=8)&&decide (1<=cW X j 1)&&decide (cW X j 1<=4)&&decide (-1<=cW X j 2)&&decide (cW X j 2<=4398046511104))=true
  simp only[bf,bn]
  omega
 ·refine List.all_eq_true.2 λj m=>?_
  have:=k j (List.mem_range.1 m)
  show(decide (1<=(bM (av g 64) 6).getD j 0)&&decide ((bM (av g 64) 6).getD j 0<=6)&&(Nat.beq j 0||decide ((bM (av g 64) 6).getD (j-1) 0<(bM (av g 64) 6).getD j 0)))=true
  rw[bW this.1.1,bW (show(bM (av g 64) 6).getD j 0<=6 from this.1.2),Bool.true_and,Bool.true_and]
  rcases this.2 with h|h
  ·rw[h];rfl
  ·rw[bW h,Bool.or_true]
 ·show(decide (0<=(cJ agg n X g top).top)&&decide ((cJ agg n X g top).top<=100)&&(decide ((cJ agg n X g top).top<=0)||Nat.blt 0 (bM (av g 64) 6).length))=true
  have e:(cJ agg n X g top).top=match decide (Int.ofNat (bM (av g 64) 6).length>0)with|true=>av top 5|false=>0:=rfl
  rw[e]
  cases d:decide (Int.ofNat (bM (av g 64) 6).length>0)with
  |true=>
   have d:=pT d
   have:0<(bM (av g 64) 6).length:=by
    have:((bM (av g 64) 6).length:Int)>0:=d
    omega
   simp only
   rw[bW (O:0<=av top 5),bW (O:av top 5<=100),eV this,Bool.or_true];rfl
  |false=>rfl
 ·unfold EV
  have o:(cJ agg n X g top).a=1+av agg 5:=rfl
  have p:(cJ agg n X g top).fl=match decide (1+av agg 5>1)with|true=>7+av (Int.tdiv agg 5) 2|false=>0:=rfl
  have q:(cJ agg n X g top).nu=match decide (1+av agg 5=5)with|true=>wy (Int.toNat (av (Int.tdiv agg 10) 11))|false=>[]:=rfl
  have r:(cJ agg n X g top).de=match decide (1+av agg 5=5)with|true=>wz (Int.toNat (av (Int.tdiv agg 10) 11))|false=>[]:=rfl
  rw[o,p,q,r]
  generalize av agg 5=a at*
  have b:(decide (7+av (Int.tdiv agg 5) 2=7)||decide (7+av (Int.tdiv agg 5) 2=8))=true:=by
   simp only[Bool.or_eq_true,bn];omega
  have:a=0∨a=4∨(1<=a/\a<=3):=O
  rcases this with rfl|rfl|h
  ·rfl
  ·have f:decide ((1:Int)+4>1)=true:=rfl
   have i:decide ((1:Int)+4=5)=true:=rfl
   rw[f,i]
   simp only
   rw[b,OO O]
   simp
  ·have f:decide (1+a>1)=true:=bW O
   have i:decide (1+a=5)=false:=nZ O
   rw[f,i]
   simp only
   rw[b,bW (O:2<=1+a),bW (O:1+a<=4)]
   simp
theorem J8(agg:Int)(n:Nat)(X:Nat->Nat->Int)(g top:Int):aI 3 (cJ agg n X g top).nw (au (cJ agg n X g top).C)=true:=by
 refine List.all_eq_true.2 λj _=>?_
 have:=uu X j
 show(aN .i64 (cW X j 0)&&(aN .i64 (cW X j 1)&&(aN .i64 (cW X j 2)&&true)))=true
 rw[aq O O,aq O O,aq O O];rfl
theorem J9(agg:Int)(n:Nat)(X:Nat->Nat->Int)(g top:Int):aI 1 (cJ agg n X g top).ng (aR (cJ agg n X g top).G)=true:=by
 refine List.all_eq_true.2 λj a=>?_
 have:=qQ (av g 64) 6 j (List.mem_range.1 a)
 show(aN .i64 ((bM (av g 64) 6).getD j 0)&&true)=true
 rw[aq O O];rfl
end Go.Sx
end
