/- The proof of a statement of the seat, part 26. -/
import Derived.Test.YtoijalagmmgkbaaGreatDoorX24
import Derived.Test.YtoijalagmmgkbaaGreatDoorX25
import Derived.Test.YtoijalagmmgkbaaGreatDoorX08
set_option linter.all false
set_option linter.defProp false
set_option maxRecDepth 1000000
namespace Go.Sx
open Go
open Int renaming toNat->B,ofNat->a_
open Go.IntKind renaming i64->z
open AH renaming get_set_same->b_,one->d_,iJ->l_,kI->m_
open Decidable renaming decide->c_
open Nat renaming blt->e_,gcd->f_,ble->i_,zero_add->n_
open List renaming range->g_
open AV renaming str->h_,agg->k_
noncomputable section
section
open Go.Proofs Go.Sort Go.Shelf Go.RowKit Go.Lib
def pP(x y:Int):Int:=Lib.compareInt y x
def EY(dF off size:Nat)(w:World):CmpReads Tryz.prog 99 #[] (Value.int z) Lib.compareInt dF off size w :=
 λ_ _ _ _ x y=>(AnyG.cmp_Compare_int Tryz.wB x y _).mono λ_ _ ⟨he,hw⟩=>⟨he,0,hw⟩
set_option maxHeartbeats 1000000 in
def EZ(x y:Int)(W:World):Calls Tryz.prog 102 #[.int z x,.int z y] W λe w'=>e= .returned (.int z (pP x y))/\∃q,w'=W.drewN q:=by
 have a:=AnyG.cmp_Compare_int Tryz.wB y x W
 change Calls Tryz.prog 99 _ _ _ at a
 unfold pP
 generalize Lib.compareInt y x=r at a⊢
 go_enter Tryz.func102,Tryz.ntmps102
 go_wp2_with (go_at_call 99;refine a.mono ?_;rintro e w' ⟨rfl,rfl⟩)
 go_ret
 exact⟨rfl,0,rfl⟩
def Fa(dF off size:Nat)(w:World):CmpReads Tryz.prog 102 #[] (Value.int z) pP dF off size w:=λ_ _ _ _ x y=>EZ x y _
def I8(x y:Int):ltOf Lib.compareInt x y=c_ (x<y):=by
 unfold ltOf Lib.compareInt
 by_cases h1:x<y
 ·simp[h1]
 ·by_cases a:y<x<;>simp[h1,a]
def Qm(x y:Int):ltOf pP x y=c_ (y<x):=I8 y x
def WM:SWO (ltOf Lib.compareInt) where
 irrefl x:=by rw[I8];simp
 trans x y a h1 b:=by rw[I8]at*;simp at*;omega
 ntrans x y a h1 b:=by rw[I8]at*;simp at*;omega
def WN:SWO (ltOf pP) where
 irrefl x:=by rw[Qm];simp
 trans x y a h1 b:=by rw[Qm]at*;simp at*;omega
 ntrans x y a h1 b:=by rw[Qm]at*;simp at*;omega
def WO(x y:Int)(a:ltOf Lib.compareInt x y=false)(b:ltOf Lib.compareInt y x=false):x=y:=by rw[I8]at*;simp at*;omega
def WQ(x y:Int)(a:ltOf pP x y=false)(b:ltOf pP y x=false):x=y:=by rw[Qm]at*;simp at*;omega
def dp(lt:Int->Int->Bool)(n:Nat)(W:Nat->Int):List Int:=((g_ n).map W).mergeSort λx y=>!lt y x
def bQ(n:Nat)(W:Nat->Int)(i:Nat):Int:=(dp (ltOf Lib.compareInt) n W).getD i 0
def cK(n:Nat)(W:Nat->Int)(i:Nat):Int:=(dp (ltOf pP) n W).getD i 0
def wD:∀(l:List Int),(g_ l.length).map (λi=>l.getD i 0)=l:=λl=>by
 refine List.ext_getElem? λi=>?_
 rw[List.getElem?_map]
 by_cases h:i<l.length
 ·rw[List.getElem?_range h];simp[List.getD_eq_getElem?_getD,h]
 ·simp[Nat.le_of_not_lt h]
def nR(lt:Int->Int->Bool)(n:Nat)(W:Nat->Int):(dp lt n W).length=n:=by
 unfold dp;rw[List.length_mergeSort];simp
def Cv(lt:Int->Int->Bool)(n:Nat)(W:Nat->Int):(g_ n).map (λi=>(dp lt n W).getD i 0)=dp lt n W:=by
 have:=wD (dp lt n W)
 rwa[nR]at this
def GW{g:FuncId}{a:Int->Int->Int}(d:SWO (ltOf a))(f:∀x y,ltOf a x y=false->ltOf a y x=false->x=y)(h:∀args w,(callFunc g args).run Tryz.prog w= .ok (.enter g args) w)
  (j:∀dF off size w,CmpReads Tryz.prog g #[] (Value.int z) a dF off size w) {n:Nat} {W:Nat->Int} (k:0<n) (l:n<4611686018427387904):
  af PP II 150 [.own 12 n 1,.fn g [] []] (lz n W) (.ret (.bK []) (lz n λi=>(dp (ltOf a) n W).getD i 0)):=
 af.Qi k (λvs w=>enters_of Tryz.func150 U A vs w) λr cap w o b=>by
  have c:((g_ n).map W).toArray.size=n:=zA
  have:=Any.slices_SortFunc_total Tryz.yQ (Value.int z) (λ_=>rfl) a d g #[] r 0 cap ((g_ n).map W).toArray w h (j _ _ _ _).lays o b (by rw[c];exact l) f
  change Calls Tryz.prog 150 _ _ _ at this
  rw[c]at this
  refine this.mono ?_
  rintro e w' ⟨he,m,os,hw⟩
  refine⟨he,m,os,?_⟩
  rw[hw,Cv]
  rfl
def I9{n:Nat}{W:Nat->Int}(a:0<n)(b:n<4611686018427387904):af PP II 150 [.own 12 n 1,.fn 99 [] []] (lz n W) (.ret (.bK []) (lz n (bQ n W))):=
 GW WM WO (λvs w=>enters_of Tryz.func99 U A vs w) EY a b
def Ja{n:Nat}{W:Nat->Int}(a:0<n)(b:n<4611686018427387904):af PP II 150 [.own 12 n 1,.fn 102 [] []] (lz n W) (.ret (.bK []) (lz n (cK n W))):=
 GW WN WQ (λvs w=>enters_of Tryz.func102 U A vs w) Fa a b
end
section
open Go.Proofs Go.Sort
def Rel.alike{c ρ H H' w}(h:Rel c ρ H w)(i:H'.n=H.n)(j:∀l,bp ρ w (ρ l) (H.get l)->bp ρ w (ρ l) (H'.get l))(m:∀l,(H'.get l).rw=(H.get l).rw)(d:∀l,H'.get l= .dead↔H.get l= .dead):Rel c ρ H' w where
 dF l:=j l (h.dF l)
 sep l f r N o b a h1 q:=(d f).2 (h.sep l f r N o b Y h1 q)
 gL l r N a h1:=h.gL l r N Y h1
 gH:=h.gH
 size:=h.size
 os:=h.os
 output:=h.output
 tape:=h.tape
 top l hl:=h.top l O
 fp:=h.fp
 hid l r N s h1:=h.hid l r N ZD h1
 env l hl:=by rw[i];exact h.env l hl
 low l hl:=(d l).2 (h.low l O)
 qY:=h.qY
 pV l r N a h1:=h.pV l r N Y h1
 ZN:=h.ZN
 qZ:=h.qZ
def kZ{n f}(h:bA n f=true):∀i,i<n->f i=ae (aM f) i:=λi hi=>by
 have:=List.all_eq_true.1 h i (List.mem_range.2 hi)
 show f i=[.int z (aM f i)]
 unfold aM
 grind
def lR{f g}:∀{n},(∀i,i<n->f i=g i)->rowsOf n f=rowsOf n g
 |0,_=>rfl
 |n+1,h=>by
  have e:∀f:Nat->List AV,rowsOf (n+1) f=rowsOf n f++f n:=λf=>by simp[rowsOf,List.range_succ]
  rw[e,e,lR λi hi=>h i O,h n O]
def Rel.T6{c ρ H w l n f}(h:Rel c ρ H w)(hl:H.get l= .rows n 1 f (.ty 3))(hi:bA n f=true):Rel c ρ (H.set l (.rows n 1 (ae (aM f)) (.ty 3))) w:=by
 have b:=kZ hi
 have g:∀j,j≠l->(H.set l (.rows n 1 (ae (aM f)) (.ty 3))).get j=H.get j:=λj e=>AH.eu _ _ (λd=>e d.symm)
 refine h.alike A (λj a=>?_) (λj=>?_) (λj=>?_)
 ·by_cases e:j=l
  ·subst e
   rw[b_]
   rw[hl]at a
   exact⟨λ_ _=>rfl,by have:=a.2;rwa[lR b]at this⟩
  grind
 ·by_cases e:j=l
  ·subst e;rw[b_,hl];rfl
  ·rw[g j e]
 ·by_cases e:j=l
  ·subst e;rw[b_,hl];simp
  ·rw[g j e]
def Qn{g:FuncId}{l n f b H}(h:af PP II 150 [.own 12 n 1,.fn g [] []] (lz n (aM f)) (.ret (.bK []) (lz n b)))(hl:H.get l= .rows n 1 f (.ty 3))(hi:bA n f=true)(d:12<=l)(i:l<H.n):
  af PP II 150 [.own l n 1,.fn g [] []] H (.ret (.bK []) ((H.set l (.rows n 1 (ae (aM f)) (.ty 3))).set l (.rows n 1 (ae b) (.ty 3)))):=by
 intro c ρ w vs hG j k
 have m:af PP II 150 [.own l n 1,.fn g [] []] (H.set l (.rows n 1 (ae (aM f)) (.ty 3))) (.ret (.bK []) ((H.set l (.rows n 1 (ae (aM f)) (.ty 3))).set l (.rows n 1 (ae b) (.ty 3)))):=
  af.VD (I:=II) (args:=[.own 12 n 1,.fn g [] []]) (a:=.bK []) h d (by simpa using i) (b_ _ _ _) (λ_=>rfl) (λ_=>rfl) (λσ e=>by
   have e:σ 12=l:=e
   show [AV.own (σ 12) n 1,AV.fn g [] []]=_
   rw[e]) (λ_ _=>rfl) (λe=>zG)
 exact m c ρ w vs hG j (k.T6 hl hi)
end
def Qo(nw ng k)(f g)(W)(a fl top)(nu de)(Q):(kp [AB] [] 335 [.agg [.az nw 3 f,.az ng 1 g,.int z a,.int z fl,.str nu,.str de,.int z top],.az k 1 (ae W)] Q)=(aa (c_ (0<=a_ k)&&aN z (a_ k)) (Q (k_ [h_ (bu (B (a_ k)/f_ (B (a_ k)) 1)),h_ (bu (1/f_ (B (a_ k)) 1))]))):=U
def Qp(nw ng k)(f g)(W)(a fl top)(nu de)(Q):(kp [AB,SI] [] 337 [.agg [.az nw 3 f,.az ng 1 g,.int z a,.int z fl,.str nu,.str de,.int z top],.az k 1 (ae W)] Q)=(aa (iu k (ae W)) (aa (c_ (0<=du (λi=>W i) k)&&aN z (du (λi=>W i) k)) (Q (k_ [h_ (bu (B (du (λi=>W i) k)/f_ (B (du (λi=>W i) k)) 1)),h_ (bu (1/f_ (B (du (λi=>W i) k)) 1))])))):=U
def Qq(nw ng k)(f g)(W)(a fl top)(nu de)(Q):(kp [Ml,SI] [] 339 [.agg [.az nw 3 f,.az ng 1 g,.int z a,.int z fl,.str nu,.str de,.int z top],.az k 1 (ae W)] Q)=(aa (iu k (ae W)) (aa (c_ (0<=du (λi=>W i) k)&&aN z (du (λi=>W i) k)&&c_ (0<a_ k)&&aN z (a_ k)) (Q (k_ [h_ (bu (B (du (λi=>W i) k)/f_ (B (du (λi=>W i) k)) (B (a_ k)))),h_ (bu (B (a_ k)/f_ (B (du (λi=>W i) k)) (B (a_ k))))])))):=U
def Qr(nw ng k)(f g)(W)(a fl top)(nu de)(Q):(kp [AB,Mo] [] 340 [.agg [.az nw 3 f,.az ng 1 g,.int z a,.int z fl,.str nu,.str de,.int z top],.az k 1 (ae W)] Q)=(aa (bA k (ae W)&&i_ k 1000000000000&&e_ 0 k) (aa (c_ (0<=cG (λi=>W i) k)&&aN z (cG (λi=>W i) k)) (Q (k_ [h_ (bu (B (cG (λi=>W i) k)/f_ (B (cG (λi=>W i) k)) 1)),h_ (bu (1/f_ (B (cG (λi=>W i) k)) 1))])))):=U
def af.rI{P I f x y a H o}(h:af P I f [x,a] H o)(k:AV.le (λl=>l) y a):af P I f [x,y] H o :=
 λc ρ w vs hG ⟨u,us,e,h1,b⟩ d=>h c ρ w vs hG ⟨u,us,e,h1,aU.tQ (show bt.le _ [y] [a]from⟨k,trivial⟩) b⟩ d
def AJ{v}(a:0<=v)(b:aN z v=true):(c_ (0<=v)&&aN z v)=true:=Y
abbrev rJ(nw ng:Nat)(f g:Nat->List AV)(a fl top:Int)(nu de:List UInt8):AV:=.agg [.az nw 3 f,.az ng 1 g,.int z a,.int z fl,.str nu,.str de,.int z top]
def Qs{nw ng k f g W a fl top nu de}(h:aN z (a_ k)=true):af PP II 335 [rJ nw ng f g a fl top nu de,.az k 1 (ae W)] HP (.ret (kA k 1) HP):=
 kz (T:=[]) ((Qo nw ng k f g W a fl top nu de _).mpr (Ze zI (λ_=>⟨rfl,rfl,trivial⟩)))
def SM:aC PP II:=aC.l8 335
 (λX args b=>match args with
  |[.agg [.az _ 3 _,.az _ 1 _,.int z _,.int z _,.str _,.str _,.int z _],.az k 1 r]=>X.ak (bA k r&&aN z (a_ k)) (b (kA k 1))
  |_=>X.fail)
 λX sem hX args b h=>by
  split at h
  ·obtain⟨a,c⟩:=hX.ak _ _ h
   simp only[bf]at a
   exact⟨_,c,λ_=>rfl,λ_=>rfl,af.rI (Qs a.2) (cy a.1)⟩
  ·exact zR
def wE{k r}(h:iu k r=true):iu k (ae (aM r))=true:=by
 unfold iu at h⊢
 simp only[bf]at h⊢
 exact⟨⟨dy _ _,h.1.2⟩,h.2⟩
def Qt{nw ng k f g W a fl top nu de}(b:iu k (ae W)=true)(c:0<=du W k):af PP II 337 [rJ nw ng f g a fl top nu de,.az k 1 (ae W)] HP (.ret (kA (du W k).toNat 1) HP):=
 kz (T:=[]) ((Qp nw ng k f g W a fl top nu de _).mpr (Ze b (Ze (AJ c ((mQ b).2.2 k (dw _))) (λ_=>⟨rfl,rfl,trivial⟩))))
def XR:aC PP II:=aC.l8 337
 (λX args b=>match args with
  |[.agg [.az _ 3 _,.az _ 1 _,.int z _,.int z _,.str _,.str _,.int z _],.az k 1 r]=>X.ak (iu k r&&c_ (0<=du (aM r) k)) (b (kA (du (aM r) k).toNat 1))
  |_=>X.fail)
 λX sem hX args b h=>by
  split at h
  ·obtain⟨a,c⟩:=hX.ak _ _ h
   simp only[bf,bn]at a
   exact⟨_,c,λ_=>rfl,λ_=>rfl,af.rI (Qt (wE a.1) a.2) (cy (mQ a.1).1)⟩
  ·exact zR
def Qu{nw ng k f g W a fl top nu de}(b:iu k (ae W)=true)(c:0<=du W k)(e:0<k)(d:aN z (a_ k)=true):af PP II 339 [rJ nw ng f g a fl top nu de,.az k 1 (ae W)] HP (.ret (kA (du W k).toNat k) HP):=
 kz (T:=[]) ((Qq nw ng k f g W a fl top nu de _).mpr (Ze b (Ze (by rw[bW c,show aN z (du (λi=>W i) k)=true from(mQ b).2.2 k (dw _),bW ZD,d];rfl) (λ_=>⟨rfl,rfl,trivial⟩))))
def SO:aC PP II:=aC.l8 339
 (λX args b=>match args with
  |[.agg [.az _ 3 _,.az _ 1 _,.int z _,.int z _,.str _,.str _,.int z _],.az k 1 r]=>X.ak (iu k r&&c_ (0<=du (aM r) k)&&e_ 0 k&&aN z (a_ k)) (b (kA (du (aM r) k).toNat k))
  |_=>X.fail)
 λX sem hX args b h=>by
  split at h
  ·obtain⟨a,c⟩:=hX.ak _ _ h
   simp only[bf,bn]at a
   exact⟨_,c,λ_=>rfl,λ_=>rfl,af.rI (Qu (wE a.1.1.1) a.1.1.2 ZD a.2) (cy (mQ a.1.1.1).1)⟩
  ·exact zR
def Qv{nw ng k f g W a fl top nu de}(b:(bA k (ae W)&&i_ k 1000000000000&&e_ 0 k)=true)(c:0<=cG W k)(d:aN z (cG W k)=true):af PP II 340 [rJ nw ng f g a fl top nu de,.az k 1 (ae W)] HP (.ret (kA (cG W k).toNat 1) HP):=
 kz (T:=[]) ((Qr nw ng k f g W a fl top nu de _).mpr (Ze b (Ze (AJ c d) (λ_=>⟨rfl,rfl,trivial⟩))))
def XS:aC PP II:=aC.l8 340
 (λX args b=>match args with
  |[.agg [.az _ 3 _,.az _ 1 _,.int z _,.int z _,.str _,.str _,.int z _],.az k 1 r]=>X.ak (bA k r&&i_ k 1000000000000&&e_ 0 k&&c_ (0<=cG (aM r) k)&&aN z (cG (aM r) k)) (b (kA (cG (aM r) k).toNat 1))
  |_=>X.fail)
 λX sem hX args b h=>by
  split at h
  ·obtain⟨a,c⟩:=hX.ak _ _ h
   simp only[bf,bn]at a
   exact⟨_,c,λ_=>rfl,λ_=>rfl,af.rI (Qv (by rw[dy,a.1.1.1.2,a.1.1.2];rfl) a.1.2 a.2) (cy a.1.1.1.1)⟩
  ·exact zR
section
open Go.Proofs Go.Sort
def Cw{x}{g:FuncId}{H}(hx:∀ρ v,VR ρ x v->∃p c,v= .slice p 0 c):af PP II 150 [x,.fn g [] []] H (.ret (.bK []) H):=by
 intro c ρ w vs hG a b
 obtain⟨u,us,rfl,d,f,h,rfl,i,rfl⟩:=a
 obtain⟨p,cap,rfl⟩:=hx _ _ d
 have L:=Tryz.yQ
 have:=AnyF.slices_SortFunc_none (P:=Tryz.prog) (ρ:=Tryz.qe) {L with} p cap f w
 change Calls Tryz.prog 150 _ _ _ at this
 refine .inl ⟨enters_of Tryz.func150 U A _ w,this.mono ?_⟩
 rintro e w' ⟨rfl,rfl⟩
 exact⟨ρ,Ext.refl ρ,b,[],rfl,rfl⟩
def AK{l}{g:FuncId}{H}:af PP II 150 [.own l 0 1,.fn g [] []] H (.ret (.bK []) H):=
 Cw λ_ _ h=>by
  rcases h with⟨_,rfl⟩|⟨b,N,c,_,rfl,_⟩
  all_goals simp
end
def af.T7{P I f args j}{a:Nat->AV}{b d H l}(h:af P I f args (d_ I.G b) (.ret (a (I.G+1)) ((d_ I.G b).new d)))(hG:I.G<=l)(hl:l<H.n)(y:H.get l=b)
  (C:∀σ,b.bD σ=b) (K:∀σ,d.bD σ=d) (D:∀σ,σ I.G=l->bt.bD σ args=j) (E:∀σ n,(a n).bD σ=a (σ n)) (L:b≠ .dead):af P I f j H (.ret (a H.n) (H.new d)):=by
 intro c ρ w vs t F u
 let σ:Nat->Nat:=λi=>if i<I.G then i else if i=I.G then l else H.n+(i-(I.G+1))
 have o:σ I.G=l:=by simp[σ]
 have q:∀i,i<I.G->σ i=i:=λi hi=>Y
 have m:∀i,I.G+1<=i->σ i=H.n+(i-(I.G+1)):=λi hi=>by
  grind
 have J:Sub I.G σ (d_ I.G b) H :=
  {lt:=λi hi=>by
    have hi:i<I.G+1:=hi
    grind
   ge:=λi hi=>m i hi
   same:=λi hi=>by
    rw[l_]at hi⊢
    grind
   inj:=Y
   fp:=λg v=>⟨Nat.lt_succ_of_lt v,q g v⟩
   low:=λi hi=>by
    have hi:I.G+1<=i:=hi
    rw[l_,if_neg O]}
 have s:(d_ I.G b).n=I.G+1:=rfl
 have ht:Eb σ (d_ I.G b) (CO.ret (a (I.G+1)) ((d_ I.G b).new d)).heap H (H.new d):=
  {n:=by show H.n+1=H.n+((I.G+1+1)-(I.G+1));omega
   old:=λi hi=>by
    show(H.new d).get (σ i)=(((d_ I.G b).new d).get i).bD σ
    rw[l_]at hi
    by_cases e:i=I.G
    ·rw[e,o,m_,m_,s,if_neg O,if_neg O,l_,if_pos A,y,C]
    grind
   new:=λi hi=>by
    have hi:I.G+1<=i:=hi
    show(H.new d).get (σ i)=(((d_ I.G b).new d).get i).bD σ
    rw[m_,m_,s,m i hi]
    by_cases e:i=I.G+1
    grind
    ·rw[if_neg O,if_neg e,u.low _ O,l_,if_neg O]
     rfl
   rest:=λi hi _=>by
    rw[m_,if_neg O]}
 have:=h.lift J ht
 rw[D σ o]at this
 have e:(CO.ret (a (I.G+1)) ((d_ I.G b).new d)).iT σ (H.new d)= .ret (a H.n) (H.new d):=by
  show CO.ret ((a (I.G+1)).bD σ) (H.new d)=_
  rw[E,m _ (dw _),Nat.sub_self,Nat.add_zero]
 rw[e]at this
 exact this c ρ w vs t F u
def af.GX{P I}(hI:I.Ok P)(ks:List (aC P I)){c}(b:eR P I id c)(fuel){f args a' H H' n0}(i:H.n=n0)
  (h:jE ks c fuel f args H (λa H=>qa n0 a H a' H' True) (λ_ _=>False)):af P I f args H (.ret a' H'):=by
 subst i
 obtain⟨o,d,j⟩:=fJ hI ks b fuel f args _ _ _ h
 cases o with
 |ret a H1=>exact j.le (qa.ok d).1
 |qt a H1=>exact d.elim
def Nh(n m)(f)(a):(jE ([]:List (aC PP II)) (mG PP II []) 1000 124 [.own 12 n 1] (d_ 12 (.rows m 1 f a)) (λb H=>qa 13 b H (.own 13 n 1) ((d_ 12 (.rows m 1 f a)).new (.rows n 1 f (.ty 3))) True) (λ_ _=>False))=(aa (e_ 0 n) (aa (c_ (n<=m)&&true&&c_ ((0+n)*8<=140737488355328)&&true) (ah (c_ (n=0)) (ax n 0 (aa (Access.PE a a&&true) (zyN m (zyR m f False)))) (ax (0+n) n (an (0+n) (λi=>bif e_ i 0 then List.take 1 (List.drop (0+i*1) [])else f (i-0)) f/\aa (Access.PE a a&&true) (zyN m (zyR m f (ax (0+n) n True)))))))):=U
def tX{m f}(h:bA m f=true):an m f f:=λi hi σ=>by
 have:=List.all_eq_true.1 h i (List.mem_range.2 hi)
 split at this
 ·rename_i n a;rw[a];exact⟨⟨rfl,rfl⟩,trivial⟩
 ·cases this
def Ni{n m f a}(d:0<n)(e:n<=m)(b:bA m f=true)(g:m<=1000000000000):af PP II 124 [.own 12 n 1] (d_ 12 (.rows m 1 f a)) (.ret (.own 13 n 1) ((d_ 12 (.rows m 1 f a)).new (.rows n 1 f (.ty 3)))):=by
 have c:Access.PE a a=true:=by cases a<;>first|rfl|exact ni _
 refine af.GX iw [] (bm PP II []) 1000 A ((Nh n m f a).mpr (Ze ZD (Ze Y (Zh (λh=>?_) λh=>?_))))
 grind
 ·refine YG (n_ n) ⟨λi hi σ=>?_,Ze (by rw[c];rfl) (YG A ⟨tX b,YG (n_ n) trivial⟩)⟩
  have:e_ i 0=false:=rfl
  simp only[this,cond_false,Nat.sub_zero]
  exact tX b i O σ
def Jb(Q):(kb [] [] 124 [.aw] Q)=(Q AV.aw):=U
def Jc(H):af PP II 124 [.aw] H (.ret .aw H):=
 af.pure (I:=II) (a:=.aw) (bY (ks:=[]) (T:=[]) (a':=.aw) (λ_=>trivial) (by rfl)) (λ_=>rfl) (λ_=>rfl) H
def Rel.GY{c ρ H w l n f a}(h:Rel c ρ H w)(hl:H.get l= .rows n 1 f a)(hi:bA n f=true):Rel c ρ (H.set l (.rows n 1 (ae (aM f)) a)) w:=by
 have d:=kZ hi
 have g:∀j,j≠l->(H.set l (.rows n 1 (ae (aM f)) a)).get j=H.get j:=λj e=>AH.eu _ _ (λi=>e i.symm)
 refine h.alike A (λj b=>?_) (λj=>?_) (λj=>?_)
 ·by_cases e:j=l
  ·subst e
   rw[b_]
   rw[hl]at b
   exact⟨λ_ _=>rfl,by have:=b.2;rwa[lR d]at this⟩
  grind
 ·by_cases e:j=l
  ·subst e;rw[b_,hl];rfl
  ·rw[g j e]
 ·by_cases e:j=l
  ·subst e;rw[b_,hl];simp
  ·rw[g j e]
def cu:aC PP II where
 f:=124
 spec X args H b _:=match args with
  |[.aw]=>b .aw H
  |[.own l n 1]=>match H.get l with
   | .rows m 1 f a=>X.ak (e_ 0 n&&i_ n m&&bA m f&&i_ m 1000000000000&&i_ 12 l&&e_ l H.n) (b (.own H.n n 1) ((H.set l (.rows m 1 (ae (aM f)) a)).new (.rows n 1 (ae (aM f)) (.ty 3))))
   |_=>X.fail
  |_=>X.fail
 ok X sem hX args H b kp h:=by
  split at h
  ·exact⟨.ret _ _,h,Jc H⟩
  ·rename_i l n
   split at h
   ·rename_i m f a hl
    obtain⟨d,g⟩:=hX.ak _ _ h
    simp only[bf,Nat.blt_eq]at d
    obtain⟨⟨⟨⟨⟨a1,a2⟩,i⟩,a4⟩,k⟩,o⟩:=d
    refine⟨.ret _ _,g,λc ρ w vs hG p q=>?_⟩
    have r:af PP II 124 [.own l n 1] (H.set l (.rows m 1 (ae (aM f)) a)) (.ret (.own (H.set l (.rows m 1 (ae (aM f)) a)).n n 1) ((H.set l (.rows m 1 (ae (aM f)) a)).new (.rows n 1 (ae (aM f)) (.ty 3)))):=
     af.T7 (I:=II) (a:=λj=> .own j n 1) (args:=[.own 12 n 1]) (Ni (a:=a) a1 ZD (dy m (aM f)) ZD) (jX k) o (b_ _ _ _) (λ_=>rfl) (λ_=>rfl) (λσ e=>by
      have e:σ 12=l:=e
      show [AV.own (σ 12) n 1]=_
      rw[e]) (λ_ _=>rfl) (λe=>zG)
    exact r c ρ w vs hG p (q.GY hl i)
   ·exact zR
  ·exact zR
end
end Go.Sx
