/- The proof of a statement of the seat, part 26. -/
import Derived.Test.YtleifmkjbmhlpaaGreatDoorX24
import Derived.Test.YtleifmkjbmhlpaaGreatDoorX25
import Derived.Test.YtleifmkjbmhlpaaGreatDoorX07
set_option linter.all false
set_option linter.defProp false
set_option maxRecDepth 1000000
namespace Go.Sx
open Go
open Int renaming toNat->M,ofNat->a_
open Go.IntKind renaming i64->z
open AH renaming get_set_same->b_,one->d_,jB->k_,gR->m_
open Decidable renaming decide->c_
open Nat renaming blt->e_,gcd->f_,ble->i_,zero_add->n_,blt_eq->o_
open List renaming range->g_
open AV renaming str->h_,agg->l_
noncomputable section
section
open Go.Proofs Go.Sort Go.Shelf Go.RowKit Go.Lib
def A8(x y:Int):Int:=Lib.compareInt y x
def IW(eB off size)(w):CmpReads Tryz.prog 110 #[] (Value.int z) Lib.compareInt eB off size w :=
 λ_ _ _ _ x y=>(AnyG.cmp_Compare_int Tryz.zl x y _).mono λ_ _ ⟨he,hw⟩=>⟨he,0,hw⟩
set_option maxHeartbeats 1000000 in
def IX(x y:Int)(W:World):Calls Tryz.prog 113 #[.int z x,.int z y] W λe w'=>e= .returned (.int z (A8 x y))/\∃q,w'=W.drewN q:=by
 have a:=AnyG.cmp_Compare_int Tryz.zl y x W;change Calls Tryz.prog 110 _ _ _ at a;unfold A8;generalize Lib.compareInt y x=r at a⊢
 go_enter Tryz.func113,Tryz.ntmps113
 go_wp2_with (go_at_call 110;refine a.mono ?_;rintro e w' ⟨rfl,rfl⟩)
 go_ret
 exact⟨rfl,0,rfl⟩
def IY(eB off size)(w):CmpReads Tryz.prog 113 #[] (Value.int z) A8 eB off size w:=λ_ _ _ _ x y=>IX x y _
def NB(x y):ltOf Lib.compareInt x y=c_ (x<y):=by
 unfold ltOf Lib.compareInt
 grind
def Vw(x y):ltOf A8 x y=c_ (y<x):=NB y x
def aat:SWO (ltOf Lib.compareInt) where
 irrefl x:=by rw[NB];simp
 trans x y a h1 b:=by rw[NB]at*;simp at*;omega
 ntrans x y a h1 b:=by rw[NB]at*;simp at*;omega
def aau:SWO (ltOf A8) where
 irrefl x:=by rw[Vw];simp
 trans x y a h1 b:=by rw[Vw]at*;simp at*;omega
 ntrans x y a h1 b:=by rw[Vw]at*;simp at*;omega
def aav(x y)(a:ltOf Lib.compareInt x y=false)(b:ltOf Lib.compareInt y x=false):x=y:=by rw[NB]at*;simp at*;omega
def aaw(x y)(a:ltOf A8 x y=false)(b:ltOf A8 y x=false):x=y:=by rw[Vw]at*;simp at*;omega
def iz(lt:Int->Int->Bool)(n:Nat)(W:Nat->Int):List Int:=((g_ n).map W).mergeSort λx y=>!lt y x
def cn(n:Nat)(W:Nat->Int)(i:Nat):Int:=(iz (ltOf Lib.compareInt) n W).getD i 0
def cV(n:Nat)(W:Nat->Int)(i:Nat):Int:=(iz (ltOf A8) n W).getD i 0
def IZ:∀(l:List Int),(g_ l.length).map (λi=>l.getD i 0)=l:=λl=>by
 refine List.ext_getElem? λi=>?_
 grind
def p5(lt)(n)(W):(iz lt n W).length=n:=by
 unfold iz;simp
def FL(lt)(n)(W):(g_ n).map (λi=>(iz lt n W).getD i 0)=iz lt n W:=by
 have:=IZ (iz lt n W)
 rwa[p5]at this
def KW{g a}(d:SWO (ltOf a))(f:∀x y,ltOf a x y=false->ltOf a y x=false->x=y)(h:∀args w,(callFunc g args).run Tryz.prog w= .ok (.enter g args) w)
  (j:∀eB off size w,CmpReads Tryz.prog g #[] (Value.int z) a eB off size w) {n W} (k:0<n) (l:n<4611686018427387904):
  af PP II 146 [.own 12 n 1,.fn g [] []] (nf n W) (.ret (.bM []) (nf n λi=>(iz (ltOf a) n W).getD i 0)):=
 af.Vr k zA λr cap w o b=>by
  have c:((g_ n).map W).toArray.size=n:=zA;have:=Any.slices_SortFunc_total Tryz.BZ (Value.int z) (λ_=>rfl) a d g #[] r 0 cap ((g_ n).map W).toArray w h (j _ _ _ _).lays o b (by rw[c];exact l) f;change Calls Tryz.prog 146 _ _ _ at this;rw[c]at this;refine this.mono ?_
  rintro e w' ⟨he,m,os,hw⟩
  refine⟨he,m,os,?_⟩;rw[hw,FL];rfl
def NC{n W}(a:0<n)(b:n<4611686018427387904):af PP II 146 [.own 12 n 1,.fn 110 [] []] (nf n W) (.ret (.bM []) (nf n (cn n W))):=
 KW aat aav zA IW a b
def ND{n W}(a:0<n)(b:n<4611686018427387904):af PP II 146 [.own 12 n 1,.fn 113 [] []] (nf n W) (.ret (.bM []) (nf n (cV n W))):=
 KW aau aaw zA IY a b
end
section
open Go.Proofs Go.Sort
def Rel.alike{c ρ H H' w}(h:Rel c ρ H w)(i:H'.n=H.n)(j:∀l,bn ρ w (ρ l) (H.get l)->bn ρ w (ρ l) (H'.get l))(m:∀l,(H'.get l).rw=(H.get l).rw)(d:∀l,H'.get l= .dead↔H.get l= .dead):Rel c ρ H' w where
 eB l:=j l (h.eB l)
 sep l f r N o b a h1 q:=(d f).2 (h.sep l f r N o b Y h1 q)
 iB l r N a h1:=h.iB l r N Y h1
 gY:=h.gY
 size:=h.size
 os:=h.os
 output:=h.output
 tape:=h.tape
 top l hl:=h.top l O
 eZ:=h.eZ
 hid l r N s h1:=h.hid l r N (by simp_all) h1
 env l hl:=by rw[i];exact h.env l hl
 low l hl:=(d l).2 (h.low l O)
 sY:=h.sY
 sy l r N a h1:=h.sy l r N Y h1
 tJ:=h.tJ
 sZ:=h.sZ
def oU{n f}(h:bN n f=true):∀i,i<n->f i=ah (a8 f) i:=λi hi=>by
 have:=List.all_eq_true.1 h i (List.mem_range.2 hi);show f i=[.int z (a8 f i)];unfold a8
 grind
def nV{f g}:∀{n},(∀i,i<n->f i=g i)->rowsOf n f=rowsOf n g
 |0,_=>rfl
 |n+1,h=>by
  have e:∀f:Nat->List AV,rowsOf (n+1) f=rowsOf n f++f n:=λf=>by simp[rowsOf,List.range_succ]
  rw[e,e,nV λi hi=>h i O,h n O]
def Rel.YH{c ρ H w l n f}(h:Rel c ρ H w)(hl:H.get l= .rows n 1 f (.ty 3))(hi:bN n f=true):Rel c ρ (H.set l (.rows n 1 (ah (a8 f)) (.ty 3))) w:=by
 have b:=oU hi;have g:∀j,j≠l->(H.set l (.rows n 1 (ah (a8 f)) (.ty 3))).get j=H.get j:=λj e=>AH.aL _ _ (λd=>e d.symm)
 refine h.alike A (λj a=>?_) (λj=>?_) (λj=>?_)
 ·by_cases e:j=l
  ·subst e;rw[b_];rw[hl]at a;exact⟨λ_ _=>rfl,by have:=a.2;rwa[nV b]at this⟩
  grind
 ·by_cases e:j=l
  ·subst e;rw[b_,hl];rfl
  ·rw[g j e]
 ·by_cases e:j=l
  ·subst e;rw[b_,hl];simp
  ·rw[g j e]
def Vx{g:FuncId}{l n f b H}(h:af PP II 146 [.own 12 n 1,.fn g [] []] (nf n (a8 f)) (.ret (.bM []) (nf n b)))(hl:H.get l= .rows n 1 f (.ty 3))(hi:bN n f=true)(d:12<=l)(i:l<H.n):
  af PP II 146 [.own l n 1,.fn g [] []] H (.ret (.bM []) ((H.set l (.rows n 1 (ah (a8 f)) (.ty 3))).set l (.rows n 1 (ah b) (.ty 3)))):=by
 intro c ρ w vs hG j k;have m:af PP II 146 [.own l n 1,.fn g [] []] (H.set l (.rows n 1 (ah (a8 f)) (.ty 3))) (.ret (.bM []) ((H.set l (.rows n 1 (ah (a8 f)) (.ty 3))).set l (.rows n 1 (ah b) (.ty 3)))):=
  af.ZT (I:=II) (args:=[.own 12 n 1,.fn g [] []]) (a:=.bM []) h d (by simpa using i) (b_ _ _ _) (λ_=>rfl) (λ_=>rfl) (λσ e=>by have e:σ 12=l:=e;show [AV.own (σ 12) n 1,AV.fn g [] []]=_;rw[e]) (λ_ _=>rfl) (λe=>zG)
 exact m c ρ w vs hG j (k.YH hl hi)
end
def Vy(nw ng k)(f g)(W)(a fl top)(nu de)(Q):(kp [DA] [] 317 [.agg [.ae nw 3 f,.ae ng 1 g,.int z a,.int z fl,.str nu,.str de,.int z top],.ae k 1 (ah W)] Q)=(B (c_ (0<=a_ k)&&aJ z (a_ k)) (Q (l_ [h_ (ck (M (a_ k)/f_ (M (a_ k)) 1)),h_ (ck (1/f_ (M (a_ k)) 1))]))):=U
def Vz(nw ng k)(f g)(W)(a fl top)(nu de)(Q):(kp [DA,WW] [] 319 [.agg [.ae nw 3 f,.ae ng 1 g,.int z a,.int z fl,.str nu,.str de,.int z top],.ae k 1 (ah W)] Q)=(B (jk k (ah W)) (B (c_ (0<=eQ (λi=>W i) k)&&aJ z (eQ (λi=>W i) k)) (Q (l_ [h_ (ck (M (eQ (λi=>W i) k)/f_ (M (eQ (λi=>W i) k)) 1)),h_ (ck (1/f_ (M (eQ (λi=>W i) k)) 1))])))):=U
def VA(nw ng k)(f g)(W)(a fl top)(nu de)(Q):(kp [Rq,WW] [] 321 [.agg [.ae nw 3 f,.ae ng 1 g,.int z a,.int z fl,.str nu,.str de,.int z top],.ae k 1 (ah W)] Q)=(B (jk k (ah W)) (B (c_ (0<=eQ (λi=>W i) k)&&aJ z (eQ (λi=>W i) k)&&c_ (0<a_ k)&&aJ z (a_ k)) (Q (l_ [h_ (ck (M (eQ (λi=>W i) k)/f_ (M (eQ (λi=>W i) k)) (M (a_ k)))),h_ (ck (M (a_ k)/f_ (M (eQ (λi=>W i) k)) (M (a_ k))))])))):=U
def VB(nw ng k)(f g)(W)(a fl top)(nu de)(Q):(kp [DA,Ru] [] 323 [.agg [.ae nw 3 f,.ae ng 1 g,.int z a,.int z fl,.str nu,.str de,.int z top],.ae k 1 (ah W)] Q)=(B (bN k (ah W)&&i_ k 1000000000000&&e_ 0 k) (B (c_ (0<=dH (λi=>W i) k)&&aJ z (dH (λi=>W i) k)) (Q (l_ [h_ (ck (M (dH (λi=>W i) k)/f_ (M (dH (λi=>W i) k)) 1)),h_ (ck (1/f_ (M (dH (λi=>W i) k)) 1))])))):=U
def af.uE{P I f x y a H o}(h:af P I f [x,a] H o)(k:AV.le (λl=>l) y a):af P I f [x,y] H o :=
 λc ρ w vs hG ⟨u,us,e,h1,b⟩ d=>h c ρ w vs hG ⟨u,us,e,h1,aV.yA (show bj.le _ [y] [a]from⟨k,trivial⟩) b⟩ d
def DI{v}(a:0<=v)(b:aJ z v=true):(c_ (0<=v)&&aJ z v)=true:=Y
abbrev uF(nw ng:Nat)(f g:Nat->List AV)(a fl top:Int)(nu de:List UInt8):AV:=.agg [.ae nw 3 f,.ae ng 1 g,.int z a,.int z fl,.str nu,.str de,.int z top]
def VC{nw ng k f g W a fl top nu de}(h:aJ z (a_ k)=true):af PP II 317 [uF nw ng f g a fl top nu de,.ae k 1 (ah W)] HP (.ret (lQ k 1) HP):=
 lP (T:=[]) ((Vy nw ng k f g W a fl top nu de _).mpr (ZF zI (λ_=>⟨rfl,rfl,trivial⟩)))
def WZ:ax PP II:=ax.oR 317
 (λX args b=>match args with
  |[.agg [.ae _ 3 _,.ae _ 1 _,.int z _,.int z _,.str _,.str _,.int z _],.ae k 1 r]=>X.ag (bN k r&&aJ z (a_ k)) (b (lQ k 1))
  |_=>X.fail)
 λX sem hX args b h=>by
  split at h
  ·obtain⟨a,c⟩:=hX.ag _ _ h;simp only[ba]at a;exact⟨_,c,λ_=>rfl,λ_=>rfl,af.uE (VC a.2) (gJ a.1)⟩
  ·exact zR
def zm{k r}(h:jk k r=true):jk k (ah (a8 r))=true:=by
 unfold jk at h⊢;simp only[ba]at h⊢;exact⟨⟨dL _ _,h.1.2⟩,h.2⟩
def VD{nw ng k f g W a fl top nu de}(b:jk k (ah W)=true)(c:0<=eQ W k):af PP II 319 [uF nw ng f g a fl top nu de,.ae k 1 (ah W)] HP (.ret (lQ (eQ W k).toNat 1) HP):=
 lP (T:=[]) ((Vz nw ng k f g W a fl top nu de _).mpr (ZF b (ZF (DI c ((oS b).2.2 k (dP _))) (λ_=>⟨rfl,rfl,trivial⟩))))
def W1:ax PP II:=ax.oR 319
 (λX args b=>match args with
  |[.agg [.ae _ 3 _,.ae _ 1 _,.int z _,.int z _,.str _,.str _,.int z _],.ae k 1 r]=>X.ag (jk k r&&c_ (0<=eQ (a8 r) k)) (b (lQ (eQ (a8 r) k).toNat 1))
  |_=>X.fail)
 λX sem hX args b h=>by
  split at h
  ·obtain⟨a,c⟩:=hX.ag _ _ h;simp only[ba,bl]at a;exact⟨_,c,λ_=>rfl,λ_=>rfl,af.uE (VD (zm a.1) a.2) (gJ (oS a.1).1)⟩
  ·exact zR
def VE{nw ng k f g W a fl top nu de}(b:jk k (ah W)=true)(c:0<=eQ W k)(h3:0<k)(h4:aJ z (a_ k)=true):af PP II 321 [uF nw ng f g a fl top nu de,.ae k 1 (ah W)] HP (.ret (lQ (eQ W k).toNat k) HP):=
 lP (T:=[]) ((VA nw ng k f g W a fl top nu de _).mpr (ZF b (ZF (by rw[bK c,show aJ z (eQ (λi=>W i) k)=true from(oS b).2.2 k (dP _),bK (by simp_all),h4];rfl) (λ_=>⟨rfl,rfl,trivial⟩))))
def W2:ax PP II:=ax.oR 321
 (λX args b=>match args with
  |[.agg [.ae _ 3 _,.ae _ 1 _,.int z _,.int z _,.str _,.str _,.int z _],.ae k 1 r]=>X.ag (jk k r&&c_ (0<=eQ (a8 r) k)&&e_ 0 k&&aJ z (a_ k)) (b (lQ (eQ (a8 r) k).toNat k))
  |_=>X.fail)
 λX sem hX args b h=>by
  split at h
  ·obtain⟨a,c⟩:=hX.ag _ _ h;simp only[ba,bl]at a;exact⟨_,c,λ_=>rfl,λ_=>rfl,af.uE (VE (zm a.1.1.1) a.1.1.2 (by simp_all) a.2) (gJ (oS a.1.1.1).1)⟩
  ·exact zR
def VF{nw ng k f g W a fl top nu de}(b:(bN k (ah W)&&i_ k 1000000000000&&e_ 0 k)=true)(c:0<=dH W k)(h3:aJ z (dH W k)=true):af PP II 323 [uF nw ng f g a fl top nu de,.ae k 1 (ah W)] HP (.ret (lQ (dH W k).toNat 1) HP):=
 lP (T:=[]) ((VB nw ng k f g W a fl top nu de _).mpr (ZF b (ZF (DI c h3) (λ_=>⟨rfl,rfl,trivial⟩))))
def W3:ax PP II:=ax.oR 323
 (λX args b=>match args with
  |[.agg [.ae _ 3 _,.ae _ 1 _,.int z _,.int z _,.str _,.str _,.int z _],.ae k 1 r]=>X.ag (bN k r&&i_ k 1000000000000&&e_ 0 k&&c_ (0<=dH (a8 r) k)&&aJ z (dH (a8 r) k)) (b (lQ (dH (a8 r) k).toNat 1))
  |_=>X.fail)
 λX sem hX args b h=>by
  split at h
  ·obtain⟨a,c⟩:=hX.ag _ _ h;simp only[ba,bl]at a;exact⟨_,c,λ_=>rfl,λ_=>rfl,af.uE (VF (by rw[dL,a.1.1.1.2,a.1.1.2];rfl) a.1.2 a.2) (gJ a.1.1.1.1)⟩
  ·exact zR
section
open Go.Proofs Go.Sort
def FM{x}{g:FuncId}{H}(hx:∀ρ v,VR ρ x v->∃p c,v= .slice p 0 c):af PP II 146 [x,.fn g [] []] H (.ret (.bM []) H):=by
 intro c ρ w vs hG a b;obtain⟨u,us,rfl,d,f,h,rfl,i,rfl⟩:=a;obtain⟨p,cap,rfl⟩:=hx _ _ d;have L:=Tryz.BZ;have:=AnyF.slices_SortFunc_none (P:=Tryz.prog) (ρ:=Tryz.sO) {L with} p cap f w;change Calls Tryz.prog 146 _ _ _ at this;refine .inl ⟨by rfl,this.mono ?_⟩
 rintro e w' ⟨rfl,rfl⟩
 exact⟨ρ,Ext.refl ρ,b,[],rfl,rfl⟩
def DJ{l}{g:FuncId}{H}:af PP II 146 [.own l 0 1,.fn g [] []] H (.ret (.bM []) H):=
 FM λ_ _ h=>by
  rcases h with⟨_,rfl⟩|⟨b,N,c,_,rfl,_⟩
  all_goals simp
end
def af.YI{P I f args args'}{a:Nat->AV}{b d H l}(h:af P I f args (d_ I.G b) (.ret (a (I.G+1)) ((d_ I.G b).new d)))(hG:I.G<=l)(hl:l<H.n)(v:H.get l=b)
  (y:∀σ,b.bx σ=b) (F:∀σ,d.bx σ=d) (h3:∀σ,σ I.G=l->bj.bx σ args=args') (h4:∀σ n,(a n).bx σ=a (σ n)) (L:b≠ .dead):af P I f args' H (.ret (a H.n) (H.new d)):=by
 intro c ρ w vs t J C
 let σ:Nat->Nat:=λi=>if i<I.G then i else if i=I.G then l else H.n+(i-(I.G+1))
 have o:σ I.G=l:=by simp[σ]
 have q:∀i,i<I.G->σ i=i:=λi hi=>by simp only[σ,if_pos hi]
 have m:∀i,I.G+1<=i->σ i=H.n+(i-(I.G+1)):=λi hi=>by simp only[σ];rw[if_neg O,if_neg O]
 have K:Sub I.G σ (d_ I.G b) H :=
  {lt:=λi hi=>by
    have hi:i<I.G+1:=hi;by_cases e:i=I.G
    ·rw[e,o];exact hl
    ·rw[q i O];omega
   ge:=λi hi=>m i hi
   same:=λi hi=>by
    rw[k_]at hi⊢;by_cases e:i=I.G
    ·rw[if_pos e,e,o,v,y]
    ·rw[if_neg e]at hi;exact absurd A hi
   inj:=λi j hi u _=>by
    rw[k_]at hi u;by_cases e:i=I.G
    ·by_cases D:j=I.G
     ·rw[e,D]
     ·rw[if_neg D]at u;exact absurd A u
    ·rw[if_neg e]at hi;exact absurd A hi
   eZ:=λg E=>⟨Nat.lt_succ_of_lt E,q g E⟩
   low:=λi hi=>by have hi:I.G+1<=i:=hi;rw[k_,if_neg O]}
 have s:(d_ I.G b).n=I.G+1:=rfl;have ht:EE σ (d_ I.G b) (CO.ret (a (I.G+1)) ((d_ I.G b).new d)).heap H (H.new d):=
  {n:=by show H.n+1=H.n+((I.G+1+1)-(I.G+1));omega
   old:=λi hi=>by
    show(H.new d).get (σ i)=(((d_ I.G b).new d).get i).bx σ;rw[k_]at hi;by_cases e:i=I.G
    ·rw[e,o,m_,m_,s,if_neg O,if_neg O,k_,if_pos A,v,y]
    ·rw[if_neg e]at hi;exact absurd A hi
   new:=λi hi=>by
    have hi:I.G+1<=i:=hi;show(H.new d).get (σ i)=(((d_ I.G b).new d).get i).bx σ;rw[m_,m_,s,m i hi];by_cases e:i=I.G+1
    ·rw[if_pos O,if_pos e,F]
    ·rw[if_neg O,if_neg e,C.low _ O,k_,if_neg O];rfl
   rest:=λi hi _=>by rw[m_,if_neg O]}
 have:=h.lift K ht;rw[h3 σ o]at this;have e:(CO.ret (a (I.G+1)) ((d_ I.G b).new d)).jt σ (H.new d)= .ret (a H.n) (H.new d):=by show CO.ret ((a (I.G+1)).bx σ) (H.new d)=_;rw[h4,m _ (dP _),Nat.sub_self,Nat.add_zero]
 rw[e]at this;exact this c ρ w vs t J C
def af.KX{P I}(hI:I.Ok P)(ks:List (ax P I)){c}(b:gv P I id c)(fuel){f args a' H H' n0}(i:H.n=n0)
  (h:ka ks c fuel f args H (λa H=>qn n0 a H a' H' True) (λ_ _=>False)):af P I f args H (.ret a' H'):=by
 subst i;obtain⟨o,d,j⟩:=iJ hI ks b fuel f args _ _ _ h;cases o with
 |ret a H1=>exact j.le (qn.ok d).1
 |rL a H1=>exact d.elim
def Sr(n m)(f)(a):(ka ([]:List (ax PP II)) (mO PP II []) 1000 148 [.own 12 n 1] (d_ 12 (.rows m 1 f a)) (λb H=>qn 13 b H (.own 13 n 1) ((d_ 12 (.rows m 1 f a)).new (.rows n 1 f (.ty 3))) True) (λ_ _=>False))=(B (e_ 0 n) (B (c_ (n<=m)&&true&&c_ ((0+n)*8<=140737488355328)&&true) (ak (c_ (n=0)) (bh n 0 (B (Access.Uv a a&&true) (zyN m (zyR m f False)))) (bh (0+n) n (an (0+n) (λi=>bif e_ i 0 then List.take 1 (List.drop (0+i*1) [])else f (i-0)) f/\B (Access.Uv a a&&true) (zyN m (zyR m f (bh (0+n) n True)))))))):=U
def wE{m f}(h:bN m f=true):an m f f:=λi hi σ=>by
 have:=List.all_eq_true.1 h i (List.mem_range.2 hi);split at this
 ·rename_i n a;rw[a];exact⟨⟨rfl,rfl⟩,trivial⟩
 ·cases this
def Ss{n m f a}(c:0<n)(d:n<=m)(b:bN m f=true)(h3:m<=1000000000000):af PP II 148 [.own 12 n 1] (d_ 12 (.rows m 1 f a)) (.ret (.own 13 n 1) ((d_ 12 (.rows m 1 f a)).new (.rows n 1 f (.ty 3)))):=by
 have e:Access.Uv a a=true:=by cases a<;>first|rfl|exact qy _
 refine af.KX fU [] (aX PP II []) 1000 A ((Sr n m f a).mpr (ZF (by rw[o_];exact c) (ZF (by rw[bK d,bK (O:(0+n)*8<=140737488355328)];rfl) (aaz (λh=>?_) λh=>?_))))
 ·simp only[bl]at h;omega
 ·refine aan (n_ n) ⟨λi hi σ=>?_,ZF (by rw[e];rfl) (aan A ⟨wE b,aan (n_ n) trivial⟩)⟩;have:e_ i 0=false:=rfl;simp only[this,cond_false,Nat.sub_zero];exact wE b i O σ
def NE(Q):(kb [] [] 148 [.aD] Q)=(Q AV.aD):=U
def NF(H):af PP II 148 [.aD] H (.ret .aD H):=
 af.pure (I:=II) (a:=.aD) (bQ (ks:=[]) (T:=[]) (a':=.aD) (λ_=>trivial) ((NE _).mpr A)) (λ_=>rfl) (λ_=>rfl) H
def Rel.KY{c ρ H w l n f a}(h:Rel c ρ H w)(hl:H.get l= .rows n 1 f a)(hi:bN n f=true):Rel c ρ (H.set l (.rows n 1 (ah (a8 f)) a)) w:=by
 have d:=oU hi;have g:∀j,j≠l->(H.set l (.rows n 1 (ah (a8 f)) a)).get j=H.get j:=λj e=>AH.aL _ _ (λi=>e i.symm)
 refine h.alike A (λj b=>?_) (λj=>?_) (λj=>?_)
 ·by_cases e:j=l
  ·subst e;rw[b_];rw[hl]at b;exact⟨λ_ _=>rfl,by have:=b.2;rwa[nV d]at this⟩
  ·rw[g j e];exact b
 ·by_cases e:j=l
  ·subst e;rw[b_,hl];rfl
  ·rw[g j e]
 ·by_cases e:j=l
  ·subst e;rw[b_,hl];exact⟨(λe=>zG),(λe=>zG)⟩
  ·rw[g j e]
def cC:ax PP II where
 f:=148
 spec X args H b _:=match args with
  |[.aD]=>b .aD H
  |[.own l n 1]=>match H.get l with
   | .rows m 1 f a=>X.ag (e_ 0 n&&i_ n m&&bN m f&&i_ m 1000000000000&&i_ 12 l&&e_ l H.n) (b (.own H.n n 1) ((H.set l (.rows m 1 (ah (a8 f)) a)).new (.rows n 1 (ah (a8 f)) (.ty 3))))
   |_=>X.fail
  |_=>X.fail
 ok X sem hX args H b kp h:=by
  split at h
  ·exact⟨.ret _ _,h,NF H⟩
  ·rename_i l n;split at h
   ·rename_i m f a hl;obtain⟨d,g⟩:=hX.ag _ _ h;simp only[ba,o_]at d;obtain⟨⟨⟨⟨⟨a1,a2⟩,i⟩,a4⟩,k⟩,o⟩:=d;refine⟨.ret _ _,g,λc ρ w vs hG p q=>?_⟩;have r:af PP II 148 [.own l n 1] (H.set l (.rows m 1 (ah (a8 f)) a)) (.ret (.own (H.set l (.rows m 1 (ah (a8 f)) a)).n n 1) ((H.set l (.rows m 1 (ah (a8 f)) a)).new (.rows n 1 (ah (a8 f)) (.ty 3)))):=
     af.YI (I:=II) (a:=λj=> .own j n 1) (args:=[.own 12 n 1]) (Ss (a:=a) a1 (fT a2) (dL m (a8 f)) (fT a4)) (fT k) o (b_ _ _ _) (λ_=>rfl) (λ_=>rfl) (λσ e=>by have e:σ 12=l:=e;show [AV.own (σ 12) n 1]=_;rw[e]) (λ_ _=>rfl) (λe=>zG)
    exact r c ρ w vs hG p (q.KY hl i)
   ·exact zR
  ·exact zR
end
end Go.Sx
