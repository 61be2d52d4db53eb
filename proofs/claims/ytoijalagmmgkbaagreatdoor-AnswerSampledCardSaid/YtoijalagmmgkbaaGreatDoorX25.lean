/- Lemmas, part 25. -/
import Derived.Test.YtoijalagmmgkbaaGreatDoorX23
import Derived.Test.YtoijalagmmgkbaaGreatDoorX24
set_option linter.all false
set_option linter.defProp false
set_option maxRecDepth 1000000
namespace Go.Sx
open Go
open AH renaming get_set_same->M,one->e_,iJ->n_,kI->o_,get->p_,pr->r_
open Go.IntKind renaming i64->z
open Int renaming toNat->a_,ofNat->b_
open Nat renaming blt->c_,gcd->g_,ble->h_,zero_add->q_
open Decidable renaming decide->d_
open Tr renaming ofList->f_
open List renaming range->i_
open AV renaming str->j_,le->l_,agg->m_
noncomputable section
section
open Go.Proofs Go.Sort Go.Shelf Go.RowKit Go.Lib
def pP(x y:Int):Int:=Lib.compareInt y x
def EY(dF off size)(w):CmpReads Tryz.prog 99 #[] (Value.int z) Lib.compareInt dF off size w :=
 λ_ _ _ _ x y=>(AnyG.cmp_Compare_int Tryz.wB x y _).mono λ_ _ ⟨he,hw⟩=>⟨he,0,hw⟩
set_option maxHeartbeats 1000000 in
def EZ(x y:Int)(W:World):Calls Tryz.prog 102 #[.int z x,.int z y] W λe w'=>e= .returned (.int z (pP x y))/\∃q,w'=W.drewN q:=by
 have a:=AnyG.cmp_Compare_int Tryz.wB y x W
 change Calls Tryz.prog 99 _ _ _ at a
 unfold pP
 generalize Lib.compareInt y x=r at a⊢
 go_enter Tryz.func102,Tryz.ntmps102
 go_wp2_with (go_at_call 99;refine a.mono ?_;rintro e w' ⟨rfl,rfl⟩)
 go_ret
 exact⟨rfl,0,rfl⟩
def Fa(dF off size)(w):CmpReads Tryz.prog 102 #[] (Value.int z) pP dF off size w:=λ_ _ _ _ x y=>EZ x y _
def I8(x y):ltOf Lib.compareInt x y=d_ (x<y):=by
 unfold ltOf Lib.compareInt
 grind
def Qm(x y):ltOf pP x y=d_ (y<x):=I8 y x
def WM:SWO (ltOf Lib.compareInt) where
 irrefl x:=by rw[I8];simp
 trans x y a h1 b:=by rw[I8]at*;simp at*;omega
 ntrans x y a h1 b:=by rw[I8]at*;simp at*;omega
def WN:SWO (ltOf pP) where
 irrefl x:=by rw[Qm];simp
 trans x y a h1 b:=by rw[Qm]at*;simp at*;omega
 ntrans x y a h1 b:=by rw[Qm]at*;simp at*;omega
def WO(x y)(a:ltOf Lib.compareInt x y=false)(b:ltOf Lib.compareInt y x=false):x=y:=by rw[I8]at*;simp at*;omega
def WQ(x y)(a:ltOf pP x y=false)(b:ltOf pP y x=false):x=y:=by rw[Qm]at*;simp at*;omega
def dp(lt:Int->Int->Bool)(n:Nat)(W:Nat->Int):List Int:=((i_ n).map W).mergeSort λx y=>!lt y x
def bQ(n:Nat)(W:Nat->Int)(i:Nat):Int:=(dp (ltOf Lib.compareInt) n W).getD i 0
def cK(n:Nat)(W:Nat->Int)(i:Nat):Int:=(dp (ltOf pP) n W).getD i 0
def wD:∀(l:List Int),(i_ l.length).map (λi=>l.getD i 0)=l:=λl=>by
 refine List.ext_getElem? λi=>?_
 grind
def nR(lt)(n)(W):(dp lt n W).length=n:=by
 unfold dp;simp
def Cv(lt)(n)(W):(i_ n).map (λi=>(dp lt n W).getD i 0)=dp lt n W:=by
 have:=wD (dp lt n W)
 rwa[nR]at this
def GW{g a}(d:SWO (ltOf a))(f:∀x y,ltOf a x y=false->ltOf a y x=false->x=y)(h:∀args w,(callFunc g args).run Tryz.prog w= .ok (.enter g args) w)
  (j:∀dF off size w,CmpReads Tryz.prog g #[] (Value.int z) a dF off size w) {n W} (k:0<n) (hn:n<4611686018427387904):
  af PP II 150 [.own 12 n 1,.fn g [] []] (lz n W) (.ret (.qP []) (lz n λi=>(dp (ltOf a) n W).getD i 0)):=
 af.Qi k zA λr cap w l b=>by
  have c:((i_ n).map W).toArray.size=n:=zA
  have:=Any.slices_SortFunc_total Tryz.yQ (Value.int z) (λ_=>rfl) a d g #[] r 0 cap ((i_ n).map W).toArray w h (j _ _ _ _).lays l b (by rw[c];exact hn) f
  change Calls Tryz.prog 150 _ _ _ at this
  rw[c]at this
  refine this.mono ?_
  rintro e w' ⟨he,m,os,hw⟩
  refine⟨he,m,os,?_⟩
  rw[hw,Cv]
  rfl
def I9{n W}(a:0<n)(hn:n<4611686018427387904):af PP II 150 [.own 12 n 1,.fn 99 [] []] (lz n W) (.ret (.qP []) (lz n (bQ n W))):=
 GW WM WO zA EY a hn
def Ja{n W}(a:0<n)(hn:n<4611686018427387904):af PP II 150 [.own 12 n 1,.fn 102 [] []] (lz n W) (.ret (.qP []) (lz n (cK n W))):=
 GW WN WQ zA Fa a hn
end
section
open Go.Proofs Go.Sort
def Rel.alike{c:fw}{ρ:Env}{H H':AH}{w:World}(h:Rel c ρ H w)(hn:H'.n=H.n)(m:∀l,bp ρ w (ρ l) (H.get l)->bp ρ w (ρ l) (H'.get l))(b:∀l,(H'.get l).rw=(H.get l).rw)(d:∀l,H'.get l= .dead↔H.get l= .dead):Rel c ρ H' w where
 dF l:=m l (h.dF l)
 sep l j r N o f a h1 q:=(d j).2 (h.sep l j r N o f (by rw[<-b l];exact a) h1 q)
 gL l r N a h1:=h.gL l r N (by rw[<-b l];exact a) h1
 gH:=h.gH
 size:=h.size
 os:=h.os
 output:=h.output
 tape:=h.tape
 top l hl:=h.top l O
 fp:=h.fp
 hid l r N i h1:=h.hid l r N (λe=>i ((d l).2 e)) h1
 env l hl:=by rw[hn];exact h.env l hl
 low l hl:=(d l).2 (h.low l O)
 qY:=h.qY
 pV l r N a h1:=h.pV l r N (by rw[<-b l];exact a) h1
 xw:=h.xw
 qZ:=h.qZ
def kZ{n:Nat}{f:Nat->List AV}(h:bA n f=true):∀i,i<n->f i=ae (aM f) i:=λi hi=>by
 have:=List.all_eq_true.1 h i (List.mem_range.2 hi)
 show f i=[.int z (aM f i)]
 unfold aM
 split at this
 ·rename_i n hn;rw[hn]
 ·cases this
def lR{f g:Nat->List AV}:∀{n:Nat},(∀i,i<n->f i=g i)->rowsOf n f=rowsOf n g
 |0,_=>rfl
 |n+1,h=>by
  have e:∀f:Nat->List AV,rowsOf (n+1) f=rowsOf n f++f n:=λf=>by simp[rowsOf,List.range_succ]
  rw[e,e,lR λi hi=>h i O,h n O]
def Rel.T6{c:fw}{ρ:Env}{H:AH}{w:World}{l n:Nat}{f:Nat->List AV}(h:Rel c ρ H w)(hl:H.get l= .rows n 1 f (.ty 3))(hi:bA n f=true):Rel c ρ (H.set l (.rows n 1 (ae (aM f)) (.ty 3))) w:=by
 have b:=kZ hi
 have g:∀j,j≠l->(H.set l (.rows n 1 (ae (aM f)) (.ty 3))).get j=H.get j:=λj e=>r_ _ _ (λd=>e d.symm)
 refine h.alike A (λj a=>?_) (λj=>?_) (λj=>?_)
 ·by_cases e:j=l
  ·subst e
   rw[M]
   rw[hl]at a
   exact⟨λ_ _=>rfl,by have:=a.2;rwa[lR b]at this⟩
  ·rw[g j e];exact a
 ·by_cases e:j=l
  ·subst e;rw[M,hl];rfl
  ·rw[g j e]
 ·by_cases e:j=l
  ·subst e;rw[M,hl];exact⟨(λe=>zG),(λe=>zG)⟩
  ·rw[g j e]
def Qn{g:FuncId}{l n:Nat}{f:Nat->List AV}{b:Nat->Int}{H:AH}(h:af PP II 150 [.own 12 n 1,.fn g [] []] (lz n (aM f)) (.ret (.qP []) (lz n b)))(hl:H.get l= .rows n 1 f (.ty 3))(hi:bA n f=true)(d:12<=l)(i:l<H.n):
  af PP II 150 [.own l n 1,.fn g [] []] H (.ret (.qP []) ((H.set l (.rows n 1 (ae (aM f)) (.ty 3))).set l (.rows n 1 (ae b) (.ty 3)))):=by
 intro c ρ w vs hG j k
 have m:af PP II 150 [.own l n 1,.fn g [] []] (H.set l (.rows n 1 (ae (aM f)) (.ty 3))) (.ret (.qP []) ((H.set l (.rows n 1 (ae (aM f)) (.ty 3))).set l (.rows n 1 (ae b) (.ty 3)))):=
  af.VD (I:=II) (args:=[.own 12 n 1,.fn g [] []]) (a:=.qP []) h d (by simpa using i) (M _ _ _) (λ_=>rfl) (λ_=>rfl) (λσ e=>by
   have e:σ 12=l:=e
   show [AV.own (σ 12) n 1,AV.fn g [] []]=_
   rw[e]) (λ_ _=>rfl) (λe=>zG)
 exact m c ρ w vs hG j (k.T6 hl hi)
end
def Qo(nw ng k:Nat)(f g:Nat->List AV)(W:Nat->Int)(a fl top:Int)(nu de:List UInt8)(Q:AV->Prop):(kp [AB] [] 335 [.agg [.ab nw 3 f,.ab ng 1 g,.int z a,.int z fl,.str nu,.str de,.int z top],.ab k 1 (ae W)] Q)=(aa (d_ (0<=b_ k)&&aN z (b_ k)) (Q (m_ [j_ (bu (a_ (b_ k)/g_ (a_ (b_ k)) 1)),j_ (bu (1/g_ (a_ (b_ k)) 1))]))):=U
def Qp(nw ng k:Nat)(f g:Nat->List AV)(W:Nat->Int)(a fl top:Int)(nu de:List UInt8)(Q:AV->Prop):(kp [AB,SI] [] 337 [.agg [.ab nw 3 f,.ab ng 1 g,.int z a,.int z fl,.str nu,.str de,.int z top],.ab k 1 (ae W)] Q)=(aa (LH k (ae W)) (aa (d_ (0<=du (λi=>W i) k)&&aN z (du (λi=>W i) k)) (Q (m_ [j_ (bu (a_ (du (λi=>W i) k)/g_ (a_ (du (λi=>W i) k)) 1)),j_ (bu (1/g_ (a_ (du (λi=>W i) k)) 1))])))):=U
def Qq(nw ng k:Nat)(f g:Nat->List AV)(W:Nat->Int)(a fl top:Int)(nu de:List UInt8)(Q:AV->Prop):(kp [Ml,SI] [] 339 [.agg [.ab nw 3 f,.ab ng 1 g,.int z a,.int z fl,.str nu,.str de,.int z top],.ab k 1 (ae W)] Q)=(aa (LH k (ae W)) (aa (d_ (0<=du (λi=>W i) k)&&aN z (du (λi=>W i) k)&&d_ (0<b_ k)&&aN z (b_ k)) (Q (m_ [j_ (bu (a_ (du (λi=>W i) k)/g_ (a_ (du (λi=>W i) k)) (a_ (b_ k)))),j_ (bu (a_ (b_ k)/g_ (a_ (du (λi=>W i) k)) (a_ (b_ k))))])))):=U
def Qr(nw ng k:Nat)(f g:Nat->List AV)(W:Nat->Int)(a fl top:Int)(nu de:List UInt8)(Q:AV->Prop):(kp [AB,Mo] [] 340 [.agg [.ab nw 3 f,.ab ng 1 g,.int z a,.int z fl,.str nu,.str de,.int z top],.ab k 1 (ae W)] Q)=(aa (bA k (ae W)&&h_ k 1000000000000&&c_ 0 k) (aa (d_ (0<=cG (λi=>W i) k)&&aN z (cG (λi=>W i) k)) (Q (m_ [j_ (bu (a_ (cG (λi=>W i) k)/g_ (a_ (cG (λi=>W i) k)) 1)),j_ (bu (1/g_ (a_ (cG (λi=>W i) k)) 1))])))):=U
def af.rI{P I f x y a H o}(h:af P I f [x,a] H o)(k:l_ (λl=>l) y a):af P I f [x,y] H o :=
 λc ρ w vs hG ⟨u,us,e,h1,b⟩ d=>h c ρ w vs hG ⟨u,us,e,h1,aU.tQ (show bt.le _ [y] [a]from⟨k,trivial⟩) b⟩ d
def AJ{v}(a:0<=v)(b:aN z v=true):(d_ (0<=v)&&aN z v)=true:=Y
abbrev rJ(nw ng:Nat)(f g:Nat->List AV)(a fl top:Int)(nu de:List UInt8):AV:=.agg [.ab nw 3 f,.ab ng 1 g,.int z a,.int z fl,.str nu,.str de,.int z top]
def Qs{nw ng k f g W a fl top nu de}(h:aN z (b_ k)=true):af PP II 335 [rJ nw ng f g a fl top nu de,.ab k 1 (ae W)] HP (.ret (kA k 1) HP):=
 kz (T:=[]) ((Qo nw ng k f g W a fl top nu de _).mpr (Ze zI (λ_=>⟨rfl,rfl,trivial⟩)))
def SM:aC PP II:=aC.l8 335
 (λX args b=>match args with
  |[.agg [.ab _ 3 _,.ab _ 1 _,.int z _,.int z _,.str _,.str _,.int z _],.ab k 1 r]=>X.bq (bA k r&&aN z (b_ k)) (b (kA k 1))
  |_=>X.fail)
 λX sem hX args b h=>by
  split at h
  ·obtain⟨a,c⟩:=hX.bq _ _ h
   simp only[bf]at a
   exact⟨_,c,λ_=>rfl,λ_=>rfl,af.rI (Qs a.2) (cy a.1)⟩
  ·exact zR
def rP{k r}(h:LH k r=true):LH k (ae (aM r))=true:=by
 unfold LH at h⊢
 simp only[bf]at h⊢
 exact⟨⟨dy _ _,h.1.2⟩,h.2⟩
def Qt{nw ng k f g W a fl top nu de}(b:LH k (ae W)=true)(c:0<=du W k):af PP II 337 [rJ nw ng f g a fl top nu de,.ab k 1 (ae W)] HP (.ret (kA (du W k).toNat 1) HP):=
 kz (T:=[]) ((Qp nw ng k f g W a fl top nu de _).mpr (Ze b (Ze (AJ c ((mQ b).2.2 k (dw _))) (λ_=>⟨rfl,rfl,trivial⟩))))
def acZ:aC PP II:=aC.l8 337
 (λX args b=>match args with
  |[.agg [.ab _ 3 _,.ab _ 1 _,.int z _,.int z _,.str _,.str _,.int z _],.ab k 1 r]=>X.bq (LH k r&&d_ (0<=du (aM r) k)) (b (kA (du (aM r) k).toNat 1))
  |_=>X.fail)
 λX sem hX args b h=>by
  split at h
  ·obtain⟨a,c⟩:=hX.bq _ _ h
   simp only[bf,bn]at a
   exact⟨_,c,λ_=>rfl,λ_=>rfl,af.rI (Qt (rP a.1) a.2) (cy (mQ a.1).1)⟩
  ·exact zR
def Qu{nw ng k f g W a fl top nu de}(b:LH k (ae W)=true)(c:0<=du W k)(e:0<k)(d:aN z (b_ k)=true):af PP II 339 [rJ nw ng f g a fl top nu de,.ab k 1 (ae W)] HP (.ret (kA (du W k).toNat k) HP):=
 kz (T:=[]) ((Qq nw ng k f g W a fl top nu de _).mpr (Ze b (Ze (by rw[bW c,show aN z (du (λi=>W i) k)=true from(mQ b).2.2 k (dw _),bW ZD,d];rfl) (λ_=>⟨rfl,rfl,trivial⟩))))
def SO:aC PP II:=aC.l8 339
 (λX args b=>match args with
  |[.agg [.ab _ 3 _,.ab _ 1 _,.int z _,.int z _,.str _,.str _,.int z _],.ab k 1 r]=>X.bq (LH k r&&d_ (0<=du (aM r) k)&&c_ 0 k&&aN z (b_ k)) (b (kA (du (aM r) k).toNat k))
  |_=>X.fail)
 λX sem hX args b h=>by
  split at h
  ·obtain⟨a,c⟩:=hX.bq _ _ h
   simp only[bf,bn]at a
   exact⟨_,c,λ_=>rfl,λ_=>rfl,af.rI (Qu (rP a.1.1.1) a.1.1.2 ZD a.2) (cy (mQ a.1.1.1).1)⟩
  ·exact zR
def Qv{nw ng k f g W a fl top nu de}(b:(bA k (ae W)&&h_ k 1000000000000&&c_ 0 k)=true)(c:0<=cG W k)(d:aN z (cG W k)=true):af PP II 340 [rJ nw ng f g a fl top nu de,.ab k 1 (ae W)] HP (.ret (kA (cG W k).toNat 1) HP):=
 kz (T:=[]) ((Qr nw ng k f g W a fl top nu de _).mpr (Ze b (Ze (AJ c d) (λ_=>⟨rfl,rfl,trivial⟩))))
def SP:aC PP II:=aC.l8 340
 (λX args b=>match args with
  |[.agg [.ab _ 3 _,.ab _ 1 _,.int z _,.int z _,.str _,.str _,.int z _],.ab k 1 r]=>X.bq (bA k r&&h_ k 1000000000000&&c_ 0 k&&d_ (0<=cG (aM r) k)&&aN z (cG (aM r) k)) (b (kA (cG (aM r) k).toNat 1))
  |_=>X.fail)
 λX sem hX args b h=>by
  split at h
  ·obtain⟨a,c⟩:=hX.bq _ _ h
   simp only[bf,bn]at a
   exact⟨_,c,λ_=>rfl,λ_=>rfl,af.rI (Qv (by rw[dy,a.1.1.1.2,a.1.1.2];rfl) a.1.2 a.2) (cy a.1.1.1.1)⟩
  ·exact zR
section
open Go.Proofs Go.Sort
def Cw{x:AV}{g:FuncId}{H:AH}(hx:∀ρ v,VR ρ x v->∃p c,v= .slice p 0 c):af PP II 150 [x,.fn g [] []] H (.ret (.qP []) H):=by
 intro c ρ w vs hG a b
 obtain⟨u,us,rfl,e1,d,f,rfl,h,rfl⟩:=a
 obtain⟨p,cap,rfl⟩:=hx _ _ e1
 have L:=Tryz.yQ
 have:=AnyF.slices_SortFunc_none (P:=Tryz.prog) (ρ:=Tryz.qe) {L with} p cap d w
 change Calls Tryz.prog 150 _ _ _ at this
 refine .inl ⟨enters_of Tryz.func150 U A _ w,this.mono ?_⟩
 rintro e w' ⟨rfl,rfl⟩
 exact⟨ρ,Ext.refl ρ,b,[],rfl,rfl⟩
def AK{l:Nat}{g:FuncId}{H:AH}:af PP II 150 [.own l 0 1,.fn g [] []] H (.ret (.qP []) H):=
 Cw λ_ _ h=>by
  rcases h with⟨_,rfl⟩|⟨b,N,c,_,rfl,_⟩
  ·exact⟨_,_,rfl⟩
  ·exact⟨_,_,rfl⟩
end
def af.T7{P I f args j}{a:Nat->AV}{b d H l}(h:af P I f args (e_ I.G b) (.ret (a (I.G+1)) ((e_ I.G b).new d)))(hG:I.G<=l)(hl:l<H.n)(y:H.get l=b)
  (B:∀σ,b.bD σ=b) (J:∀σ,d.bD σ=d) (C:∀σ,σ I.G=l->bt.bD σ args=j) (D:∀σ n,(a n).bD σ=a (σ n)) (K:b≠ .dead):af P I f j H (.ret (a H.n) (H.new d)):=by
 intro c ρ w vs t E u
 let σ:Nat->Nat:=λi=>if i<I.G then i else if i=I.G then l else H.n+(i-(I.G+1))
 have o:σ I.G=l:=by simp[σ]
 have q:∀i,i<I.G->σ i=i:=λi hi=>Y
 have m:∀i,I.G+1<=i->σ i=H.n+(i-(I.G+1)):=λi hi=>by
  grind
 have F:Sub I.G σ (e_ I.G b) H :=
  {lt:=λi hi=>by
    have hi:i<I.G+1:=hi
    grind
   ge:=λi hi=>m i hi
   same:=λi hi=>by
    rw[n_]at hi⊢
    grind
   inj:=Y
   fp:=λg v=>⟨Nat.lt_succ_of_lt v,q g v⟩
   low:=λi hi=>by
    have hi:I.G+1<=i:=hi
    rw[n_,if_neg O]}
 have s:(e_ I.G b).n=I.G+1:=rfl
 have ht:Eb σ (e_ I.G b) (CO.ret (a (I.G+1)) ((e_ I.G b).new d)).heap H (H.new d):=
  {n:=by show H.n+1=H.n+((I.G+1+1)-(I.G+1));omega
   old:=λi hi=>by
    show(H.new d).get (σ i)=(((e_ I.G b).new d).get i).bD σ
    rw[n_]at hi
    by_cases e:i=I.G
    ·rw[e,o,o_,o_,s,if_neg O,if_neg O,n_,if_pos A,y,B]
    grind
   new:=λi hi=>by
    have hi:I.G+1<=i:=hi
    show(H.new d).get (σ i)=(((e_ I.G b).new d).get i).bD σ
    rw[o_,o_,s,m i hi]
    by_cases e:i=I.G+1
    grind
    ·rw[if_neg O,if_neg e,u.low _ O,n_,if_neg O]
     rfl
   rest:=λi hi _=>by
    rw[o_,if_neg O]}
 have:=h.lift F ht
 rw[C σ o]at this
 have e:(CO.ret (a (I.G+1)) ((e_ I.G b).new d)).iT σ (H.new d)= .ret (a H.n) (H.new d):=by
  show CO.ret ((a (I.G+1)).bD σ) (H.new d)=_
  rw[D,m _ (dw _),Nat.sub_self,Nat.add_zero]
 rw[e]at this
 exact this c ρ w vs t E u
def af.GX{P I}(hI:I.Ok P)(ks:List (aC P I)){c}(b:eR P I id c)(fuel){f args a' H H' n0}(hn:H.n=n0)
  (h:jE ks c fuel f args H (λa H=>qa n0 a H a' H' True) (λ_ _=>False)):af P I f args H (.ret a' H'):=by
 subst hn
 obtain⟨o,d,i⟩:=fJ hI ks b fuel f args _ _ _ h
 cases o with
 |ret a H1=>exact i.le (qa.ok d).1
 |qt a H1=>exact d.elim
def Nh(n m)(f)(a):(jE ([]:List (aC PP II)) (mG PP II []) 1000 124 [.own 12 n 1] (e_ 12 (.rows m 1 f a)) (λb H=>qa 13 b H (.own 13 n 1) ((e_ 12 (.rows m 1 f a)).new (.rows n 1 f (.ty 3))) True) (λ_ _=>False))=(aa (c_ 0 n) (aa (d_ (n<=m)&&true&&d_ ((0+n)*8<=140737488355328)&&true) (ah (d_ (n=0)) (ax n 0 (aa (Access.PE a a&&true) (zyN m (zyR m f False)))) (ax (0+n) n (an (0+n) (λi=>bif c_ i 0 then List.take 1 (List.drop (0+i*1) [])else f (i-0)) f/\aa (Access.PE a a&&true) (zyN m (zyR m f (ax (0+n) n True)))))))):=U
def tX{m f}(h:bA m f=true):an m f f:=λi hi σ=>by
 have:=List.all_eq_true.1 h i (List.mem_range.2 hi)
 split at this
 ·rename_i n hn;rw[hn];exact⟨⟨rfl,rfl⟩,trivial⟩
 ·cases this
def Ni{n m f a}(d:0<n)(e:n<=m)(b:bA m f=true)(g:m<=1000000000000):af PP II 124 [.own 12 n 1] (e_ 12 (.rows m 1 f a)) (.ret (.own 13 n 1) ((e_ 12 (.rows m 1 f a)).new (.rows n 1 f (.ty 3)))):=by
 have c:Access.PE a a=true:=by cases a<;>first|rfl|exact ni _
 refine af.GX Hs [] (bm PP II []) 1000 A ((Nh n m f a).mpr (Ze ZD (Ze Y (Zh (λh=>?_) λh=>?_))))
 grind
 ·refine YG (q_ n) ⟨λi hi σ=>?_,Ze (by rw[c];rfl) (YG A ⟨tX b,YG (q_ n) trivial⟩)⟩
  have:c_ i 0=false:=rfl
  simp only[this,cond_false,Nat.sub_zero]
  exact tX b i O σ
def Jb(Q):(kb [] [] 124 [.aw] Q)=(Q AV.aw):=U
def Jc(H):af PP II 124 [.aw] H (.ret .aw H):=
 af.pure (I:=II) (a:=.aw) (bY (ks:=[]) (T:=[]) (a':=.aw) (λ_=>trivial) (by rfl)) (λ_=>rfl) (λ_=>rfl) H
def Rel.GY{c ρ H w l n f a}(h:Rel c ρ H w)(hl:H.get l= .rows n 1 f a)(hi:bA n f=true):Rel c ρ (H.set l (.rows n 1 (ae (aM f)) a)) w:=by
 have d:=kZ hi
 have g:∀j,j≠l->(H.set l (.rows n 1 (ae (aM f)) a)).get j=H.get j:=λj e=>r_ _ _ (λi=>e i.symm)
 refine h.alike A (λj b=>?_) (λj=>?_) (λj=>?_)
 ·by_cases e:j=l
  ·subst e
   rw[M]
   rw[hl]at b
   exact⟨λ_ _=>rfl,by have:=b.2;rwa[lR d]at this⟩
  grind
 ·by_cases e:j=l
  ·subst e;rw[M,hl];rfl
  ·rw[g j e]
 ·by_cases e:j=l
  ·subst e;rw[M,hl];simp
  ·rw[g j e]
def cu:aC PP II where
 f:=124
 spec X args H b _:=match args with
  |[.aw]=>b .aw H
  |[.own l n 1]=>match H.get l with
   | .rows m 1 f a=>X.bq (c_ 0 n&&h_ n m&&bA m f&&h_ m 1000000000000&&h_ 12 l&&c_ l H.n) (b (.own H.n n 1) ((H.set l (.rows m 1 (ae (aM f)) a)).new (.rows n 1 (ae (aM f)) (.ty 3))))
   |_=>X.fail
  |_=>X.fail
 ok X sem hX args H b kp h:=by
  split at h
  ·exact⟨.ret _ _,h,Jc H⟩
  ·rename_i l n
   split at h
   ·rename_i m f a hl
    obtain⟨d,g⟩:=hX.bq _ _ h
    simp only[bf,Nat.blt_eq]at d
    obtain⟨⟨⟨⟨⟨a1,a2⟩,i⟩,s⟩,k⟩,o⟩:=d
    refine⟨.ret _ _,g,λc ρ w vs hG p q=>?_⟩
    have r:af PP II 124 [.own l n 1] (H.set l (.rows m 1 (ae (aM f)) a)) (.ret (.own (H.set l (.rows m 1 (ae (aM f)) a)).n n 1) ((H.set l (.rows m 1 (ae (aM f)) a)).new (.rows n 1 (ae (aM f)) (.ty 3)))):=
     af.T7 (I:=II) (a:=λj=> .own j n 1) (args:=[.own 12 n 1]) (Ni (a:=a) a1 ZD (dy m (aM f)) ZD) (jX k) o (M _ _ _) (λ_=>rfl) (λ_=>rfl) (λσ e=>by
      have e:σ 12=l:=e
      show [AV.own (σ 12) n 1]=_
      rw[e]) (λ_ _=>rfl) (λe=>zG)
    exact r c ρ w vs hG p (q.GY hl i)
   ·exact zR
  ·exact zR
def HR:AH:={n:=14,t:=f_ [(0,.cells [.ab 5 2 aA] .ro),(1,.cells [.str [48],.str [49]] .ro),(3,.cells [.map (some 13)] .ro),(6,.cells dz (.ex 20)),(13,.map OZ)]}
def Ff(b:eT):Bool:=match b with
 | .cells [.str [48],.str [49]] .ro=>true
 |_=>false
def Nq(b:eT):Bool:=match b with
 | .cells [.map (some 13)] .ro=>true
 |_=>false
def AP(b:eT):Bool:=match b with
 | .map [(.any,.any),(.int z 1,.agg [.fn 335 [] []]),(.int z 2,.agg [.fn 337 [] []]),(.int z 3,.agg [.fn 339 [] []]),(.int z 4,.agg [.fn 340 [] []]),(.int z 5,.agg [.fn 341 [] []])]=>true
 |_=>false
def Jk{b}(h:Ff b=true):b= .cells [.str [48],.str [49]] .ro:=by
 unfold Ff at h
 grind
def Nr{b}(h:Nq b=true):b= .cells [.map (some 13)] .ro:=by
 unfold Nq at h
 grind
def Fg{b}(h:AP b=true):b= .map OZ:=by
 unfold AP at h
 split at h<;>first|rfl|cases h
def Ns(H:AH):Bool:=h_ 14 H.n&&rM (H.get 0)&&Ff (H.get 1)&&Nq (H.get 3)&&LS H&&AP (H.get 13)
def wI(i):HR.get i=if i=0 then .cells [.ab 5 2 aA] .ro else if i=1 then .cells [.str [48],.str [49]] .ro else if i=3 then .cells [.map (some 13)] .ro else if i=6 then .cells dz (.ex 20)else if i=13 then .map OZ else .dead:=by
 show p_ {n:=14,t:=f_ [(0,_),(1,_),(3,_),(6,_),(13,_)]} i=_
 simp only[p_,f_,Tr.bH,Tr.qV]
 grind
def af.WW{P I f args a H0 H}(h:af P I f args H0 (.ret a H0))(hG:I.G<=H0.n)(hn:H0.n<=H.n)(b:∀i,H0.n<=i->H0.get i= .dead)
  (o:∀i,H0.get i≠ .dead->H.get i=H0.get i/\∀σ,(∀j,j<H0.n->σ j=j)->(H0.get i).bD σ=H0.get i) (d:∀σ,bt.bD σ args=args) (ha:∀σ,a.bD σ=a):
  af P I f args H (.ret a H):=by
 intro c ρ w vs q u t
 let σ:Nat->Nat:=λl=>if l<H0.n then l else H.n+(l-H0.n)
 have m:∀i,i<H0.n->σ i=i:=λi hi=>Y
 have s:∀i,H0.get i≠ .dead->i<H0.n:=Y
 have v:Sub I.G σ H0 H :=
  {lt:=λl hl=>by rw[m l hl];omega
   ge:=λl hl=>Y
   same:=Y
   inj:=Y
   fp:=λg y=>Y
   low:=b}
 have ht:Eb σ H0 (CO.ret a H0).heap H H :=
  {n:=by show H.n=H.n+(H0.n-H0.n);omega
   old:=λl hl=>by
    show H.get (σ l)=(H0.get l).bD σ
    grind
   new:=λl hl=>by
    show H.get (σ l)=(H0.get l).bD σ
    rw[b l hl]
    simp only[σ,if_neg (Nat.not_lt.2 hl)]
    rw[t.low _ O]
    rfl
   rest:=λ_ _ _=>rfl}
 have:=h.lift v ht
 rw[d]at this
 have e:(CO.ret a H0).iT σ H= .ret a H:=by
  show CO.ret (a.bD σ) H=_
  rw[ha]
 rw[e]at this
 exact this c ρ w vs q u t
def af.WX{f:FuncId}{args:List AV}{a:AV}{H:AH}(h:af PP II f args (H.set 0 (.cells [.ab 5 2 aA] .ro)) (.ret a (H.set 0 (.cells [.ab 5 2 aA] .ro))))(m:rM (H.get 0)=true):af PP II f args H (.ret a H):=by
 obtain⟨g,o,B⟩:=wH m
 have key:∀(b C:eT),(∃x y,b= .cells [.ab 5 2 x] .ro/\C= .cells [.ab 5 2 y] .ro/\(∀i,i<5->x i=aA i)/\∀i,i<5->y i=aA i)->∀c ρ w (H H':AH),H.get 0=b->H'.n=H.n->(∀l,H'.get l=if l=0 then C else H.get l)->Rel c ρ H w->Rel c ρ H' w:=by
  rintro _ _ ⟨x,y,rfl,rfl,hx,E⟩ c ρ w H H' m hn o j
  refine j.same hn (λl hl=>?_) (λl=>?_) λl=>?_
  ·rw[o]
   by_cases e:l=0
   ·subst e;rw[if_pos A];rw[m]at hl;exact Ul hx E hl
   grind
  ·rw[o]
   by_cases e:l=0
   ·subst e;rw[if_pos A,m];rfl
   ·rw[if_neg e]
  ·grind
 have q:∀c ρ w,Rel c ρ H w->Rel c ρ (H.set 0 (.cells [.ab 5 2 aA] .ro)) w:=λc ρ w j=>
  key _ _ ⟨_,_,rfl,rfl,B,λ_ _=>rfl⟩ c ρ w H _ o A (λl=>AH.bH _ _ _ _) j
 have back:∀c ρ w,Rel c ρ (H.set 0 (.cells [.ab 5 2 aA] .ro)) w->Rel c ρ H w:=λc ρ w j=>
  key (.cells [.ab 5 2 aA] .ro) (.cells [.ab 5 2 g] .ro) ⟨_,_,rfl,rfl,λ_ _=>rfl,B⟩ c ρ w _ _ (M _ _ _) A (λl=>by
   by_cases e:l=0
   grind
   ·rw[if_neg e,r_ _ _ (λd=>e d.symm)]) j
 intro c ρ w vs hG F j
 have post:∀e w',(CO.ret a (H.set 0 (.cells [.ab 5 2 aA] .ro))).post c ρ e w'->(CO.ret a H).post c ρ e w':=by
  intro e w' s
  cases e with
  |returned v=>
   obtain⟨ρ',hx,t,u⟩:=s
   exact⟨ρ',hx,back _ _ _ t,u⟩
  |panicked G=>exact s.elim
  |outgrown=>exact s.elim
 rcases h c ρ w vs hG F (q _ _ _ j)with⟨h1,D⟩|⟨v,w',h1,D⟩
 ·exact .inl ⟨h1,D.mono post⟩
 grind
def CD{H}(h:Ns H=true):14<=H.n/\rM (H.get 0)=true/\H.get 1= .cells [.str [48],.str [49]] .ro/\H.get 3= .cells [.map (some 13)] .ro/\H.get 6= .cells dz (.ex 20)/\H.get 13= .map OZ:=by
 unfold Ns LS at h
 simp only[bf]at h
 exact⟨ZD,h.1.1.1.1.2,Jk h.1.1.1.2,Nr h.1.1.2,sY h.1.2,Fg h.2⟩
def af.s9{f args a H}(h:af PP II f args HR (.ret a HR))(s:Ns H=true)(c:∀σ,bt.bD σ args=args)(ha:∀σ,a.bD σ=a):af PP II f args H (.ret a H):=by
 obtain⟨t,u,v,w,y,j⟩:=CD s
 refine af.WX (af.WW (H0:=HR) h zC zI (λi hi=>?_) (λi d=>?_) c ha) u
 ·have hi:14<=i:=hi
  rw[wI,if_neg O,if_neg O,if_neg O,if_neg O,if_neg O]
 ·rw[wI]at d⊢
  by_cases l:i=0
  ·subst l;rw[M];exact⟨rfl,λ_ _=>rfl⟩
  ·rw[r_ _ _ (λb=>l b.symm)]
   rw[if_neg l]at d⊢
   by_cases e1:i=1
   ·subst e1;exact⟨v,λ_ _=>rfl⟩
   ·rw[if_neg e1]at d⊢
    by_cases o:i=3
    ·subst o
     refine⟨w,λσ m=>?_⟩
     show eT.cells [.map (some (σ 13))] .ro=_
     rw[m 13 zC];rfl
    ·rw[if_neg o]at d⊢
     by_cases q:i=6
     ·subst q
      refine⟨y,λσ _=>?_⟩
      rfl
     ·rw[if_neg q]at d⊢
      by_cases Jh:i=13
      ·subst Jh;exact⟨j,λ_ _=>rfl⟩
      grind
def aC.s9(f:FuncId)(spec:{R:Type}->RI R->List AV->(AV->R)->R)
  (ok:∀{R:Type}(X:RI R)(sem:R->Prop),X.Ok sem->∀args c,sem (spec X args c)->∃a,sem (c a)/\(∀σ,a.bD σ=a)/\(∀σ,bt.bD σ args=args)/\af PP II f args HR (.ret a HR)):aC PP II where
 f:=f
 spec X args H c _:=jK X 100000 args H λb H'=>X.bq (Ns H') (spec X b λa=>c a H')
 ok X sem hX args H c kp h:=by
  obtain⟨b,H',d,i⟩:=gC hX _ _ _ _ h
  obtain⟨j,d⟩:=hX.bq _ _ d
  obtain⟨a,k1,k2,l,m⟩:=ok X sem hX _ _ d
  exact⟨.ret a H',k1,(m.s9 j l k2).nI i⟩
abbrev kq(ks:List (aC PP II))(T:lI)(f:FuncId)(args:List AV)(Q:AV->Prop):Prop :=
 jE ks (mG PP II T) 1000 f args HR (λa H=>qC RI.jY 100000 a H λa' H2=>aa (Ns H2) (Q a')) (λ_ _=>False)
def qh{ks T f args a'}(h:kq ks T f args (λa=> ∀σ,l_ σ a a')):af PP II f args HR (.ret a' HR):=by
 obtain⟨o,e,k⟩:=fJ Hs ks (bm PP II T) 1000 f args HR _ _ h
 cases o with
 |ret a H1=>
  obtain⟨x,H2,k1,k2⟩:=lm RI.dJ _ _ _ _ e
  obtain⟨k0,k1⟩:=Zk k1
  have k1:∀σ,l_ σ x a':=k1
  obtain⟨d,m,e1,p,q,Jh⟩:=CD k0
  obtain⟨g,r,s⟩:=wH m
  refine(k.vW k2).le (ky.of [] (im.of (by rfl) A A A (kV d) (gS.2 λl hl=>?_)) (k1 _))
  have hl:l<14:=hl
  have b:∀i,i<14->sig HR.n [] H2.n i=i:=λi hi=>by
   show sig 14 [] H2.n i=i
   unfold sig
   rw[show c_ i 14=true from ZD];rfl
  rw[wI]
  by_cases c0:l=0
  ·subst c0
   rw[if_pos A]
   show if sig HR.n [] H2.n 0<H2.n then eT.le (sig HR.n [] H2.n) (H2.get (sig HR.n [] H2.n 0)) (eT.cells [.ab 5 2 aA] .ro)else _
   rw[b 0 zC,if_pos O,r]
   exact⟨⟨⟨rfl,rfl,λi hi=>by rw[s i hi];exact aZ i hi _⟩,trivial⟩,trivial⟩
  ·rw[if_neg c0]
   by_cases c1:l=1
   ·subst c1
    rw[if_pos A]
    show if sig HR.n [] H2.n 1<H2.n then eT.le (sig HR.n [] H2.n) (H2.get (sig HR.n [] H2.n 1)) _ else _
    rw[b 1 zC,if_pos O,e1]
    exact⟨⟨rfl,rfl,trivial⟩,trivial⟩
   ·rw[if_neg c1]
    by_cases c3:l=3
    ·subst c3
     rw[if_pos A]
     show if sig HR.n [] H2.n 3<H2.n then eT.le (sig HR.n [] H2.n) (H2.get (sig HR.n [] H2.n 3)) _ else _
     rw[b 3 zC,if_pos O,p]
     exact⟨⟨by rfl,trivial⟩,trivial⟩
    ·rw[if_neg c3]
     by_cases j:l=6
     ·subst j
      rw[if_pos A]
      show if sig HR.n [] H2.n 6<H2.n then eT.le (sig HR.n [] H2.n) (H2.get (sig HR.n [] H2.n 6)) _ else _
      rw[b 6 zC,if_pos O,q]
      exact⟨pz _,rfl⟩
     ·rw[if_neg j]
      by_cases c:l=13
      ·subst c
       rw[if_pos A]
       show if sig HR.n [] H2.n 13<H2.n then eT.le (sig HR.n [] H2.n) (H2.get (sig HR.n [] H2.n 13)) _ else _
       rw[b 13 zC,if_pos O,Jh]
       refine⟨rfl,?_,?_⟩
       ·simp[gK,OZ,bt.le,l_]
       ·simp[gK,OZ,bt.le,l_]
      ·rw[if_neg c];trivial
 |qt a H1=>exact e.elim
def HE:AH:={n:=12,t:=f_ [(6,.cells dz (.ex 20)),(9,.cells [.str [48],.str [49]] .ro),(10,.cells [.str [49],.str [49]] .ro)]}
def Rb(b:eT):Bool:=match b with
 | .cells [.str [49],.str [49]] .ro=>true
 |_=>false
def Rc{b}(h:Rb b=true):b= .cells [.str [49],.str [49]] .ro:=by
 unfold Rb at h
 grind
def Re(H:AH):Bool:=h_ 12 H.n&&LS H&&Ff (H.get 9)&&Rb (H.get 10)
def KA(i):HE.get i=if i=6 then .cells dz (.ex 20)else if i=9 then .cells [.str [48],.str [49]] .ro else if i=10 then .cells [.str [49],.str [49]] .ro else .dead:=by
 show p_ {n:=12,t:=f_ [(6,_),(9,_),(10,_)]} i=_
 simp only[p_,f_,Tr.bH,Tr.qV]
 grind
def Jv{H}(h:Re H=true):12<=H.n/\H.get 6= .cells dz (.ex 20)/\H.get 9= .cells [.str [48],.str [49]] .ro/\H.get 10= .cells [.str [49],.str [49]] .ro:=by
 unfold Re LS at h
 simp only[bf]at h
 exact⟨ZD,sY h.1.1.2,Jk h.1.2,Rc h.2⟩
def af.S1{f args a H}(h:af PP II f args HE (.ret a HE))(q:Re H=true)(b:∀σ,bt.bD σ args=args)(ha:∀σ,a.bD σ=a):af PP II f args H (.ret a H):=by
 obtain⟨c,s,t,d⟩:=Jv q
 refine af.WW (H0:=HE) h zC c (λi hi=>?_) (λi j=>?_) b ha
 ·have hi:12<=i:=hi
  rw[KA,if_neg O,if_neg O,if_neg O]
 ·rw[KA]at j⊢
  by_cases m:i=6
  ·subst m
   refine⟨s,λσ _=>?_⟩
   rfl
  ·rw[if_neg m]at j⊢
   by_cases o:i=9
   ·subst o;exact⟨t,λ_ _=>rfl⟩
   ·rw[if_neg o]at j⊢
    by_cases l:i=10
    ·subst l;exact⟨d,λ_ _=>rfl⟩
    grind
def aC.S1(f:FuncId)(spec:{R:Type}->RI R->List AV->(AV->R)->R)
  (ok:∀{R:Type}(X:RI R)(sem:R->Prop),X.Ok sem->∀args c,sem (spec X args c)->∃a,sem (c a)/\(∀σ,a.bD σ=a)/\(∀σ,bt.bD σ args=args)/\af PP II f args HE (.ret a HE)):aC PP II where
 f:=f
 spec X args H c _:=jK X 100000 args H λb H'=>X.bq (Re H') (spec X b λa=>c a H')
 ok X sem hX args H c kp h:=by
  obtain⟨b,H',d,i⟩:=gC hX _ _ _ _ h
  obtain⟨j,d⟩:=hX.bq _ _ d
  obtain⟨a,k1,k2,l,m⟩:=ok X sem hX _ _ d
  exact⟨.ret a H',k1,(m.S1 j l k2).nI i⟩
abbrev ke(ks:List (aC PP II))(T:lI)(f:FuncId)(args:List AV)(Q:AV->Prop):Prop :=
 jE ks (mG PP II T) 1000 f args HE (λa H=>qC RI.jY 100000 a H λa' H2=>aa (Re H2) (Q a')) (λ_ _=>False)
def Vf{ks T f args a'}(h:ke ks T f args (λa=> ∀σ,l_ σ a a')):af PP II f args HE (.ret a' HE):=by
 obtain⟨o,g,k⟩:=fJ Hs ks (bm PP II T) 1000 f args HE _ _ h
 cases o with
 |ret a H1=>
  obtain⟨x,H2,k1,k2⟩:=lm RI.dJ _ _ _ _ g
  obtain⟨k0,k1⟩:=Zk k1
  have k1:∀σ,l_ σ x a':=k1
  obtain⟨c,m,p,d⟩:=Jv k0
  refine(k.vW k2).le (ky.of [] (im.of (by rfl) A A A (kV c) (gS.2 λl hl=>?_)) (k1 _))
  have hl:l<12:=hl
  have e:∀i,i<12->sig HE.n [] H2.n i=i:=λi hi=>by
   show sig 12 [] H2.n i=i
   unfold sig
   rw[show c_ i 12=true from ZD];rfl
  rw[KA]
  by_cases j:l=6
  ·subst j
   rw[if_pos A]
   show if sig HE.n [] H2.n 6<H2.n then eT.le (sig HE.n [] H2.n) (H2.get (sig HE.n [] H2.n 6)) (eT.cells dz (.ex 20))else _
   rw[e 6 O,if_pos O,m]
   exact⟨pz _,rfl⟩
  ·rw[if_neg j]
   by_cases c9:l=9
   ·subst c9
    rw[if_pos A]
    show if sig HE.n [] H2.n 9<H2.n then eT.le (sig HE.n [] H2.n) (H2.get (sig HE.n [] H2.n 9)) (eT.cells [.str [48],.str [49]] .ro)else _
    rw[e 9 O,if_pos O,p]
    exact⟨⟨rfl,rfl,trivial⟩,trivial⟩
   ·rw[if_neg c9]
    by_cases b:l=10
    ·subst b
     rw[if_pos A]
     show if sig HE.n [] H2.n 10<H2.n then eT.le (sig HE.n [] H2.n) (H2.get (sig HE.n [] H2.n 10)) (eT.cells [.str [49],.str [49]] .ro)else _
     rw[e 10 O,if_pos O,d]
     exact⟨⟨rfl,rfl,trivial⟩,trivial⟩
    ·rw[if_neg b];trivial
 |qt a H1=>exact g.elim
def lh(S:Nat->List UInt8)(j:Nat):List AV:=[.str (S j),.str [49]]
def WB(n:Nat)(a:List (Nat×eT)):AH:={n:=n,t:=f_ ([(6,.cells dz (.ex 20)),(9,.cells [.str [48],.str [49]] .ro),(10,.cells [.str [49],.str [49]] .ro)]++a)}
end
end Go.Sx
