/- The proof of a statement of the seat, part 34. -/
import Derived.Test.YtleifmkjbmhlpaaGreatDoorX33
set_option linter.all false
set_option linter.defProp false
set_option maxRecDepth 1000000
namespace Go.Sx
open Go
open Decidable renaming decide->M
open Int renaming ofNat->z,toNat->a_
open Nat renaming blt->b_,zero_le->h_,beq->n_,ble->s_
open List renaming range->c_,all->g_,take->k_,drop->l_,filter_append->o_,getD_eq_getElem?_getD->r_,length_append->u_,all_eq_true->w_,getElem_mem->x_,range_succ->y_
open Go.IntKind renaming i64->d_
open AV renaming str->e_,int->f_,ae->i_,agg->t_,le->B_,bool->C_
open AH renaming get_set_same->j_,blank->v_,aL->A_
open Tr renaming ofList->m_
open Prod renaming fst->p_,snd->q_
noncomputable section
section
open Go.Sort Go.Shelf Go.Proofs
def Rel.SJ{c ρ H w l f g a}(h:Rel c ρ H w)(hl:H.get l= .rows 0 1 f a):Rel c ρ (H.set l (.rows 0 1 g a)) w:=by
 have g:∀j,j≠l->(H.set l (.rows 0 1 g a)).get j=H.get j:=λj e=>A_ _ _ (λd=>e d.symm)
 refine h.alike A (λj b=>?_) (λj=>?_) (λj=>?_)
 ·by_cases e:j=l
  ·subst e;rw[j_];rw[hl]at b;exact⟨O,b.2⟩
  grind
 ·by_cases e:j=l
  ·subst e;rw[j_,hl];rfl
  ·rw[g j e]
 ·by_cases e:j=l
  ·subst e;rw[j_,hl];simp
  ·rw[g j e]
def cG:ax PP II where
 f:=146
 spec X args H p _:=match args with
  |[.own l n 1,.fn g [] []]=>match H.get l with
   | .rows m 1 f (.ty 3)=>X.ag (bN n f&&n_ n m&&b_ n 4611686018427387904&&s_ 12 l&&b_ l H.n) (match g with
    |110=>p (.bM []) (H.set l (.rows n 1 (ah (cn n (a8 f))) (.ty 3)))
    |113=>p (.bM []) (H.set l (.rows n 1 (ah (cV n (a8 f))) (.ty 3)))
    |_=>X.fail)
   |_=>X.fail
  |_=>X.fail
 ok X sem hX args H p kp h:=by
  split at h
  ·rename_i l n g;split at h
   ·rename_i m f hl;obtain⟨u,j⟩:=hX.ag _ _ h;simp only[ba,Nat.blt_eq]at u;obtain⟨⟨⟨⟨a1,a2⟩,a4⟩,C⟩,x⟩:=u;cases dV a2;have key:∀b:Nat->Int,(0<n->af PP II 146 [.own 12 n 1,.fn g [] []] (nf n (a8 f)) (.ret (.bM []) (nf n b)))->af PP II 146 [.own l n 1,.fn g [] []] H (.ret (.bM []) (H.set l (.rows n 1 (ah b) (.ty 3)))):=λb y=>by
     by_cases d:n=0
     ·subst d;intro c ρ w vs hG q r;exact DJ c ρ w vs hG q (r.SJ hl)
     ·have:=Vx (y O) hl a1 (by simp_all) x;intro c ρ w vs hG q r;have e:∀(o:CO),o= .ret (.bM []) ((H.set l (.rows n 1 (ah (a8 f)) (.ty 3))).set l (.rows n 1 (ah b) (.ty 3)))->∀e w',o.post c ρ e w'->(CO.ret (.bM []) (H.set l (.rows n 1 (ah b) (.ty 3)))).post c ρ e w':=by
       rintro _ rfl e w' hp
       cases e with
       |returned v=>
        obtain⟨ρ',hx,s,t⟩:=hp;refine⟨ρ',hx,s.congr A λi=>?_,t⟩;by_cases k:i=l
        ·subst k;rw[j_,j_]
        ·rw[A_ _ _ (λa=>k a.symm),A_ _ _ (λa=>k a.symm),A_ _ _ (λa=>k a.symm)]
       |panicked D=>exact hp.elim
       |outgrown=>exact hp.elim
      rcases this c ρ w vs hG q r with⟨k1,k2⟩|⟨v,w',k1,k2⟩
      ·exact .inl ⟨k1,k2.mono (e _ A)⟩
      grind
    split at j
    ·exact⟨.ret _ _,j,key _ λd=>NC d a4⟩
    ·exact⟨.ret _ _,j,key _ λd=>ND d a4⟩
    ·exact absurd j hX.fail
   ·exact zR
  ·exact zR
def bw(L G:Nat->Int)(C:Nat->Bool)(i:Nat):List AV:=[.int d_ (L i),.int d_ (G i),.bool (C i)]
end
section
open Go.Sort Go.Shelf Go.Proofs
def hQ(n:Nat)(a:List (Nat×aae)):AH:={n:=n,t:=m_ ([(0,.cells [.ae 5 2 aC] .ro),(1,.cells [.str [48],.str [49]] .ro),(3,.cells [.map (some 13)] .ro),(6,.cells dS (.ex 20)),(13,.map oW)]++a)}
def hB(q:Query)(n:Nat)(a:List (Nat×aae)):AH:=hQ n ([(14,.cells (aZ q) (.ty 34)),(15,.cells [.str [],.str []] (.ty 32))]++a)
def wJ(a b c:Nat)(d:List (Nat×AV)):Tr AV:=m_ ([(2,.fn a [] []),(3,.fn 105 [] []),(4,.fn b [] []),(5,.fn c [] []),(6,.ptr 14 0 0 0),(12,.ptr 15 0 0 0)]++d)
def sB(d e f:Nat)(q:Query)(k:Nat)(L G:Nat->Int)(C:Nat->Bool)(b c:Int->Nat)(V a:Nat->Int)(i:Int):St:={t:=wJ d e f [(13,.own 16 (b i) 1),(14,.own 17 (c i) 1),(20,.ae k 3 (bw L G C)),(21,.int d_ (z k)),(22,.int d_ i)],nt:=69,H:=hB q 18 [(16,.rows (b i) 1 (ah V) (.ty 3)),(17,.rows (c i) 1 (ah a) (.ty 3))],df:=[]}
def sC(d e f:Nat)(q:Query)(b c:Nat)(V a:Nat->Int):GE:=.one (.x 0 {t:=wJ d e f [(13,.own 16 b 1),(14,.own 17 c 1)],nt:=69,H:=hB q 18 [(16,.rows b 1 (ah V) (.ty 3)),(17,.rows c 1 (ah a) (.ty 3))],df:=[]})
def lS(a b c:Nat)(q:Query)(k:Nat)(L G:Nat->Int)(i:Int):St:={t:=wJ a b c [(13,.aD),(14,.own 16 i.toNat 1),(20,.ae k 3 (bw L G λ_=>false)),(21,.int d_ (z k)),(22,.int d_ i)],nt:=69,H:=hB q 17 [(16,.rows i.toNat 1 (ah (match a with|107=>L|_=>G)) (.ty 3))],df:=[]}
def lT(b c d:Nat)(q:Query)(k:Nat)(a:Nat->Int):GE:=.one (.x 0 {t:=wJ b c d [(13,.aD),(14,.own 16 k 1)],nt:=69,H:=hB q 17 [(16,.rows k 1 (ah a) (.ty 3))],df:=[]})
def lU(f g h:Nat)(q:Query)(e d:Nat)(V a:Nat->Int)(b c:Int->List UInt8)(i:Int):St:={t:=wJ f g h [(13,.own 16 e 1),(14,.own 17 d 1),(17,.ptr 18 0 0 0),(49,.int d_ (z d)),(50,.int d_ i)],nt:=69,H:=hB q 19 [(16,.rows e 1 (ah V) .ro),(17,.rows d 1 (ah a) (.ty 3)),(18,.cells [.str (b i),.str (c i)] (.ty 32))],df:=[]}
def lV(c d e:Nat)(q:Query)(a b:List UInt8):GE:=.one (.x 2 {t:=wJ c d e [(17,.ptr 18 0 0 0)],nt:=69,H:=hB q 19 [(18,.cells [.str a,.str b] (.ty 32))],df:=[]})
def lW(e f g:Nat)(q:Query)(d:Nat)(a:Nat->Int)(b c:Int->List UInt8)(i:Int):St:={t:=wJ e f g [(13,.aD),(14,.own 16 d 1),(17,.ptr 17 0 0 0),(49,.int d_ (z d)),(50,.int d_ i)],nt:=69,H:=hB q 18 [(16,.rows d 1 (ah a) (.ty 3)),(17,.cells [.str (b i),.str (c i)] (.ty 32))],df:=[]}
def lX(c d e:Nat)(q:Query)(a b:List UInt8):GE:=.one (.x 2 {t:=wJ c d e [(17,.ptr 17 0 0 0)],nt:=69,H:=hB q 18 [(17,.cells [.str a,.str b] (.ty 32))],df:=[]})
def z8(q)(k)(L G)(C)(c d)(V b)(f g)(i)(Q):(kr [gP,cG,cC,bR,oT,gK] [] 106 3001 16 (sB 107 108 110 q k L G C c d V b) (λ_=>sC 107 108 110 q f g V b) (λi=>i+1) Q i)=(ak (M (i<z k)) (B (M (0<=i)&&M (i<z k)) (ak (C i.toNat) (B (M (c i<=c i)&&true&&true&&M ((c i+1)*8<=140737488355328)&&true) (B (aJ d_ (i+1)) (bh (d i) (d (i+1)) (zyR (d i) (ah b) (bh (c i+1) (c (i+1)) (an (c i+1) (λe=>bif b_ e (c i)then ah V e else k_ 1 (l_ (0+(e-c i)*1) [f_ d_ (L i.toNat)])) (ah V)/\zyB [] (zyB [] (zyN q.nw (zyR q.nw (av q.C) (zyN q.ng (zyR q.ng (aN q.G) (zyI q.a (zyI q.fl (zyB q.nu (zyB q.de (zyI q.top (zyB [48] (zyB [49] (zyR 5 aC (zyI (z k) (bh (c i+1) (c (i+1)) (zyN k (zyR k (bw L G C) (zyI (i+1) (bh (d i) (d (i+1)) Q))))))))))))))))))))))))) (B (M (d i<=d i)&&true&&true&&M ((d i+1)*8<=140737488355328)&&true) (B (aJ d_ (i+1)) (bh (d i+1) (d (i+1)) (an (d i+1) (λe=>bif b_ e (d i)then ah b e else k_ 1 (l_ (0+(e-d i)*1) [f_ d_ (L i.toNat)])) (ah b)/\bh (c i) (c (i+1)) (zyR (c i) (ah V) (zyB [] (zyB [] (zyN q.nw (zyR q.nw (av q.C) (zyN q.ng (zyR q.ng (aN q.G) (zyI q.a (zyI q.fl (zyB q.nu (zyB q.de (zyI q.top (zyB [48] (zyB [49] (zyR 5 aC (zyI (z k) (bh (c i) (c (i+1)) (zyN k (zyR k (bw L G C) (zyI (i+1) (bh (d i+1) (d (i+1)) Q))))))))))))))))))))))))))) (bh (d i) g (zyR (d i) (ah b) (bh (c i) f (zyR (c i) (ah V) (zyB [] (zyB [] (zyN q.nw (zyR q.nw (av q.C) (zyN q.ng (zyR q.ng (aN q.G) (zyI q.a (zyI q.fl (zyB q.nu (zyB q.de (zyI q.top (zyB [48] (zyB [49] (zyR 5 aC (bh (c i) f (bh (d i) g True))))))))))))))))))))):=U
def wK(q)(k)(L G)(i)(Q):(kr [gP,cG,cC,bR,oT,gK] [] 106 3001 16 (lS 107 108 110 q k L G) (λ_=>lT 107 108 110 q k L) (λi=>i+1) Q i)=(ak (M (i<z k)) (B (M (0<=i)&&M (i<z k)) (B (M (i.toNat<=i.toNat)&&true&&true&&M ((i.toNat+1)*8<=140737488355328)&&true) (B (aJ d_ (i+1)) (bh (i.toNat+1) (a_ (i+1)) (an (i.toNat+1) (λb=>bif b_ b i.toNat then ah L b else k_ 1 (l_ (0+(b-i.toNat)*1) [f_ d_ (L i.toNat)])) (ah L)/\zyB [] (zyB [] (zyN q.nw (zyR q.nw (av q.C) (zyN q.ng (zyR q.ng (aN q.G) (zyI q.a (zyI q.fl (zyB q.nu (zyB q.de (zyI q.top (zyB [48] (zyB [49] (zyR 5 aC (zyI (z k) (zyN k (zyR k (bw L G λx=>false) (zyI (i+1) (bh (i.toNat+1) (a_ (i+1)) Q))))))))))))))))))))))) (bh i.toNat k (zyR i.toNat (ah L) (zyB [] (zyB [] (zyN q.nw (zyR q.nw (av q.C) (zyN q.ng (zyR q.ng (aN q.G) (zyI q.a (zyI q.fl (zyB q.nu (zyB q.de (zyI q.top (zyB [48] (zyB [49] (zyR 5 aC (bh i.toNat k True)))))))))))))))))):=U
def wL(q)(f g)(V c)(d e)(a b)(i)(Q){h}(n:h=(fY {nw:=q.nw,C:=λj k=>cT (av q.C j) k,ng:=q.ng,G:=λj=>q.G j,a:=q.a,fl:=q.fl,nu:=q.nu,de:=q.de,top:=q.top} (f+a_ (i+1)) (a8 λi=>bif b_ i f then ah (a8 (ah V)) i else ah c (i-f)))){l}(o:l=(fZ {nw:=q.nw,C:=λj k=>cT (av q.C j) k,ng:=q.ng,G:=λj=>q.G j,a:=q.a,fl:=q.fl,nu:=q.nu,de:=q.de,top:=q.top} (f+a_ (i+1)) (a8 λi=>bif b_ i f then ah (a8 (ah V)) i else ah c (i-f)))){m}(p:m=((M (q.nw=q.nw)&&true&&g_ (c_ q.nw) λi=>M (q.C i 0=q.C i 0)&&(M (q.C i 1=q.C i 1)&&(M (q.C i 2=q.C i 2)&&true)))&&((M (q.ng=q.ng)&&true&&g_ (c_ q.ng) λi=>M (q.G i=q.G i)&&true)&&(M (q.a=q.a)&&(M (q.fl=q.fl)&&(M (q.nu=q.nu)&&(M (q.de=q.de)&&(M (q.top=q.top)&&true)))))))):(kr [gP,cG,cC,bR,oT,gK] [] 106 12001 19 (lU 107 108 110 q f g V c d e) (λ_=>lV 107 108 110 q a b) (λi=>i+1) Q i)=(ak (M (i<z g)) (B (b_ 0 f&&s_ f f&&bN f (ah V)&&s_ f 1000000000000&&true&&true) (B m (B (aJ d_ (i+1)) (B (M (0<=i+1)&&M (i+1<=z g)) (B (M (0<=i+1)&&M (i+1<=z g)) (B (M (a_ (i+1)=a_ (i+1))&&true) (B (M (f<=f)&&M (a_ (i+1)<=g)&&true&&M ((f+a_ (i+1))*8<=140737488355328)&&true) (B m (B ((g_ (c_ (f+a_ (i+1))) λi=>bj.free (bif b_ i f then ah (a8 (ah V)) i else ah c (i-f)))&&M (f+a_ (i+1)<=f+a_ (i+1))) (B ((jw [i_ q.nw 3 (av q.C),i_ q.ng 1 (aN q.G),f_ d_ q.a,f_ d_ q.fl,e_ q.nu,e_ q.de,f_ d_ q.top]&&fx {nw:=q.nw,C:=λj k=>cT (av q.C j) k,ng:=q.ng,G:=λj=>q.G j,a:=q.a,fl:=q.fl,nu:=q.nu,de:=q.de,top:=q.top}&&bN (f+a_ (i+1)) λi=>bif b_ i f then ah (a8 (ah V)) i else ah c (i-f))&&cJ (f+a_ (i+1)) (a8 λi=>bif b_ i f then ah (a8 (ah V)) i else ah c (i-f))) (B (bX h l&&bX (d i) (e i)) (ak (M (bO (aw h) (aw l) (aw (d i)) (aw (e i))<0)) (B (aJ d_ (i+1)) (eX h (d (i+1)) (eX l (e (i+1)) (zyN g (zyR g (ah c) (zyN f (an f (ah (a8 (ah V))) (ah V)/\zyB [] (zyB [] (zyN q.nw (zyR q.nw (av q.C) (zyN q.ng (zyR q.ng (aN q.G) (zyI q.a (zyI q.fl (zyB q.nu (zyB q.de (zyI q.top (zyB [48] (zyB [49] (zyR 5 aC (zyI (z g) (zyN f (zyI (i+1) (zyN g Q)))))))))))))))))))))))) (B (aJ d_ (i+1)) (eX (d i) (d (i+1)) (eX (e i) (e (i+1)) (zyN g (zyR g (ah c) (zyN f (an f (ah (a8 (ah V))) (ah V)/\zyB [] (zyB [] (zyN q.nw (zyR q.nw (av q.C) (zyN q.ng (zyR q.ng (aN q.G) (zyI q.a (zyI q.fl (zyB q.nu (zyB q.de (zyI q.top (zyB [48] (zyB [49] (zyR 5 aC (zyI (z g) (zyN f (zyI (i+1) (zyN g Q)))))))))))))))))))))))))))))))))))) (eX (d i) a (eX (e i) b (zyB [] (zyB [] (zyN q.nw (zyR q.nw (av q.C) (zyN q.ng (zyR q.ng (aN q.G) (zyI q.a (zyI q.fl (zyB q.nu (zyB q.de (zyI q.top (zyB [48] (zyB [49] (zyR 5 aC True))))))))))))))))):=by subst_vars;kernel_rfl
def uK(q)(f)(c)(d e)(a b)(i)(Q){g}(m:g=(fY {nw:=q.nw,C:=λj k=>cT (av q.C j) k,ng:=q.ng,G:=λj=>q.G j,a:=q.a,fl:=q.fl,nu:=q.nu,de:=q.de,top:=q.top} (a_ (i+1)) (a8 λi=>bif b_ i 0 then []else ah c (i-0)))){h}(n:h=(fZ {nw:=q.nw,C:=λj k=>cT (av q.C j) k,ng:=q.ng,G:=λj=>q.G j,a:=q.a,fl:=q.fl,nu:=q.nu,de:=q.de,top:=q.top} (a_ (i+1)) (a8 λi=>bif b_ i 0 then []else ah c (i-0)))){l}(o:l=((M (q.nw=q.nw)&&true&&g_ (c_ q.nw) λi=>M (q.C i 0=q.C i 0)&&(M (q.C i 1=q.C i 1)&&(M (q.C i 2=q.C i 2)&&true)))&&((M (q.ng=q.ng)&&true&&g_ (c_ q.ng) λi=>M (q.G i=q.G i)&&true)&&(M (q.a=q.a)&&(M (q.fl=q.fl)&&(M (q.nu=q.nu)&&(M (q.de=q.de)&&(M (q.top=q.top)&&true)))))))):(kr [gP,cG,cC,bR,oT,gK] [] 106 12001 18 (lW 107 108 110 q f c d e) (λ_=>lX 107 108 110 q a b) (λi=>i+1) Q i)=(ak (M (i<z f)) (B l (B (aJ d_ (i+1)) (B (M (0<=i+1)&&M (i+1<=z f)) (B (M (0<=i+1)&&M (i+1<=z f)) (B (M (a_ (i+1)=a_ (i+1))&&true) (B (M (a_ (i+1)<=f)&&true&&M ((0+a_ (i+1))*8<=140737488355328)&&true) (B l (B ((g_ (c_ (0+a_ (i+1))) λi=>bj.free (bif b_ i 0 then []else ah c (i-0)))&&M (a_ (i+1)<=0+a_ (i+1))) (B ((jw [i_ q.nw 3 (av q.C),i_ q.ng 1 (aN q.G),f_ d_ q.a,f_ d_ q.fl,e_ q.nu,e_ q.de,f_ d_ q.top]&&fx {nw:=q.nw,C:=λj k=>cT (av q.C j) k,ng:=q.ng,G:=λj=>q.G j,a:=q.a,fl:=q.fl,nu:=q.nu,de:=q.de,top:=q.top}&&bN (a_ (i+1)) λi=>bif b_ i 0 then []else ah c (i-0))&&cJ (a_ (i+1)) (a8 λi=>bif b_ i 0 then []else ah c (i-0))) (B (bX g h&&bX (d i) (e i)) (ak (M (bO (aw g) (aw h) (aw (d i)) (aw (e i))<0)) (B (aJ d_ (i+1)) (eX g (d (i+1)) (eX h (e (i+1)) (zyN f (zyR f (ah c) (zyB [] (zyB [] (zyN q.nw (zyR q.nw (av q.C) (zyN q.ng (zyR q.ng (aN q.G) (zyI q.a (zyI q.fl (zyB q.nu (zyB q.de (zyI q.top (zyB [48] (zyB [49] (zyR 5 aC (zyI (z f) (zyI (i+1) (zyN f Q)))))))))))))))))))))) (B (aJ d_ (i+1)) (eX (d i) (d (i+1)) (eX (e i) (e (i+1)) (zyN f (zyR f (ah c) (zyB [] (zyB [] (zyN q.nw (zyR q.nw (av q.C) (zyN q.ng (zyR q.ng (aN q.G) (zyI q.a (zyI q.fl (zyB q.nu (zyB q.de (zyI q.top (zyB [48] (zyB [49] (zyR 5 aC (zyI (z f) (zyI (i+1) (zyN f Q))))))))))))))))))))))))))))))))) (eX (d i) a (eX (e i) b (zyB [] (zyB [] (zyN q.nw (zyR q.nw (av q.C) (zyN q.ng (zyR q.ng (aN q.G) (zyI q.a (zyI q.fl (zyB q.nu (zyB q.de (zyI q.top (zyB [48] (zyB [49] (zyR 5 aC True))))))))))))))))):=by subst_vars;kernel_rfl
def SK(q)(k)(L G)(C)(h l)(V c)(g f)(d e)(a b)(Q):(kq [gP,cG,cC,bR,oT,gK] [(3001,16,sB 107 108 110 q k L G C h l V c 0,sC 107 108 110 q g f V c),(12001,19,lU 107 108 110 q g f V (cn f c) d e 0,lV 107 108 110 q a b)] 106 [.agg (aZ q),.ae k 3 (bw L G C),.fn 107 [] [],.fn 105 [] [],.fn 108 [] [],.fn 110 [] []] Q)=(ay PP II false (az II 106 3001) 16 (sB 107 108 110 q k L G C h l V c 0) (sC 107 108 110 q g f V c)/\bh (l 0) 0 (bh (h 0) 0 (zyB [] (zyB [] (zyN q.nw (zyR q.nw (av q.C) (zyN q.ng (zyR q.ng (aN q.G) (zyI q.a (zyI q.fl (zyB q.nu (zyB q.de (zyI q.top (zyB [48] (zyB [49] (zyR 5 aC (zyI (z k) (bh (h 0) 0 (zyN k (zyR k (bw L G C) (bh (l 0) 0 (B (bN f (ah c)&&n_ f f&&b_ f 4611686018427387904&&true&&true) (B ((g_ (c_ g) λi=>bj.free (ah V i))&&M (g<=g)) (B (jw [i_ q.nw 3 (av q.C),i_ q.ng 1 (aN q.G),f_ d_ q.a,f_ d_ q.fl,e_ q.nu,e_ q.de,f_ d_ q.top]&&fx {nw:=q.nw,C:=λj k=>cT (av q.C j) k,ng:=q.ng,G:=λj=>q.G j,a:=q.a,fl:=q.fl,nu:=q.nu,de:=q.de,top:=q.top}&&bN g (ah V)&&cJ g (a8 (ah V))) (ay PP II false (az II 106 12001) 19 (lU 107 108 110 q g f V (cn f c) d e 0) (lV 107 108 110 q a b)/\eX (fY {nw:=q.nw,C:=λj k=>cT (av q.C j) k,ng:=q.ng,G:=λj=>q.G j,a:=q.a,fl:=q.fl,nu:=q.nu,de:=q.de,top:=q.top} g (a8 (ah V))) (d 0) (eX (fZ {nw:=q.nw,C:=λj k=>cT (av q.C j) k,ng:=q.ng,G:=λj=>q.G j,a:=q.a,fl:=q.fl,nu:=q.nu,de:=q.de,top:=q.top} g (a8 (ah V))) (e 0) (zyN f (an f (ah (cn f (a8 (ah c)))) (ah (cn f c))/\zyN g (zyR g (ah V) (zyB [] (zyB [] (zyN q.nw (zyR q.nw (av q.C) (zyN q.ng (zyR q.ng (aN q.G) (zyI q.a (zyI q.fl (zyB q.nu (zyB q.de (zyI q.top (zyB [48] (zyB [49] (zyR 5 aC (zyI (z f) (zyN g (zyN f (Q (t_ [e_ a,e_ b])))))))))))))))))))))))))))))))))))))))))))))))):=U
def NU(q)(k)(L G)(c d)(a b)(Q):(kq [gP,cG,cC,bR,oT,gK] [(3001,16,lS 107 108 110 q k L G 0,lT 107 108 110 q k L),(12001,18,lW 107 108 110 q k (cn k L) c d 0,lX 107 108 110 q a b)] 106 [.agg (aZ q),.ae k 3 (bw L G λ_=>false),.fn 107 [] [],.fn 105 [] [],.fn 108 [] [],.fn 110 [] []] Q)=(ay PP II false (az II 106 3001) 16 (lS 107 108 110 q k L G 0) (lT 107 108 110 q k L)/\zyB [] (zyB [] (zyN q.nw (zyR q.nw (av q.C) (zyN q.ng (zyR q.ng (aN q.G) (zyI q.a (zyI q.fl (zyB q.nu (zyB q.de (zyI q.top (zyB [48] (zyB [49] (zyR 5 aC (zyI (z k) (zyN k (zyR k (bw L G λx=>false) (B (bN k (ah L)&&n_ k k&&b_ k 4611686018427387904&&true&&true) (B (jw [i_ q.nw 3 (av q.C),i_ q.ng 1 (aN q.G),f_ d_ q.a,f_ d_ q.fl,e_ q.nu,e_ q.de,f_ d_ q.top]&&fx {nw:=q.nw,C:=λj k=>cT (av q.C j) k,ng:=q.ng,G:=λj=>q.G j,a:=q.a,fl:=q.fl,nu:=q.nu,de:=q.de,top:=q.top}) (ay PP II false (az II 106 12001) 18 (lW 107 108 110 q k (cn k L) c d 0) (lX 107 108 110 q a b)/\eX (fY {nw:=q.nw,C:=λj k=>cT (av q.C j) k,ng:=q.ng,G:=λj=>q.G j,a:=q.a,fl:=q.fl,nu:=q.nu,de:=q.de,top:=q.top} 0 λx=>0) (c 0) (eX (fZ {nw:=q.nw,C:=λj k=>cT (av q.C j) k,ng:=q.ng,G:=λj=>q.G j,a:=q.a,fl:=q.fl,nu:=q.nu,de:=q.de,top:=q.top} 0 λx=>0) (d 0) (zyN k (an k (ah (cn k (a8 (ah L)))) (ah (cn k L))/\zyB [] (zyB [] (zyN q.nw (zyR q.nw (av q.C) (zyN q.ng (zyR q.ng (aN q.G) (zyI q.a (zyI q.fl (zyB q.nu (zyB q.de (zyI q.top (zyB [48] (zyB [49] (zyR 5 aC (zyI (z k) (zyN k (Q (t_ [e_ a,e_ b])))))))))))))))))))))))))))))))))))))))):=U
def Aa(q)(k)(L G)(C)(c d)(V b)(f g)(i)(Q):(kr [gP,cG,cC,bR,jU,gL] [] 106 3001 16 (sB 111 112 113 q k L G C c d V b) (λ_=>sC 111 112 113 q f g V b) (λi=>i+1) Q i)=(ak (M (i<z k)) (B (M (0<=i)&&M (i<z k)) (ak (C i.toNat) (B (M (c i<=c i)&&true&&true&&M ((c i+1)*8<=140737488355328)&&true) (B (aJ d_ (i+1)) (bh (d i) (d (i+1)) (zyR (d i) (ah b) (bh (c i+1) (c (i+1)) (an (c i+1) (λe=>bif b_ e (c i)then ah V e else k_ 1 (l_ (0+(e-c i)*1) [f_ d_ (G i.toNat)])) (ah V)/\zyB [] (zyB [] (zyN q.nw (zyR q.nw (av q.C) (zyN q.ng (zyR q.ng (aN q.G) (zyI q.a (zyI q.fl (zyB q.nu (zyB q.de (zyI q.top (zyB [48] (zyB [49] (zyR 5 aC (zyI (z k) (bh (c i+1) (c (i+1)) (zyN k (zyR k (bw L G C) (zyI (i+1) (bh (d i) (d (i+1)) Q))))))))))))))))))))))))) (B (M (d i<=d i)&&true&&true&&M ((d i+1)*8<=140737488355328)&&true) (B (aJ d_ (i+1)) (bh (d i+1) (d (i+1)) (an (d i+1) (λe=>bif b_ e (d i)then ah b e else k_ 1 (l_ (0+(e-d i)*1) [f_ d_ (G i.toNat)])) (ah b)/\bh (c i) (c (i+1)) (zyR (c i) (ah V) (zyB [] (zyB [] (zyN q.nw (zyR q.nw (av q.C) (zyN q.ng (zyR q.ng (aN q.G) (zyI q.a (zyI q.fl (zyB q.nu (zyB q.de (zyI q.top (zyB [48] (zyB [49] (zyR 5 aC (zyI (z k) (bh (c i) (c (i+1)) (zyN k (zyR k (bw L G C) (zyI (i+1) (bh (d i+1) (d (i+1)) Q))))))))))))))))))))))))))) (bh (d i) g (zyR (d i) (ah b) (bh (c i) f (zyR (c i) (ah V) (zyB [] (zyB [] (zyN q.nw (zyR q.nw (av q.C) (zyN q.ng (zyR q.ng (aN q.G) (zyI q.a (zyI q.fl (zyB q.nu (zyB q.de (zyI q.top (zyB [48] (zyB [49] (zyR 5 aC (bh (c i) f (bh (d i) g True))))))))))))))))))))):=U
def wM(q)(k)(L G)(i)(Q):(kr [gP,cG,cC,bR,jU,gL] [] 106 3001 16 (lS 111 112 113 q k L G) (λ_=>lT 111 112 113 q k G) (λi=>i+1) Q i)=(ak (M (i<z k)) (B (M (0<=i)&&M (i<z k)) (B (M (i.toNat<=i.toNat)&&true&&true&&M ((i.toNat+1)*8<=140737488355328)&&true) (B (aJ d_ (i+1)) (bh (i.toNat+1) (a_ (i+1)) (an (i.toNat+1) (λb=>bif b_ b i.toNat then ah G b else k_ 1 (l_ (0+(b-i.toNat)*1) [f_ d_ (G i.toNat)])) (ah G)/\zyB [] (zyB [] (zyN q.nw (zyR q.nw (av q.C) (zyN q.ng (zyR q.ng (aN q.G) (zyI q.a (zyI q.fl (zyB q.nu (zyB q.de (zyI q.top (zyB [48] (zyB [49] (zyR 5 aC (zyI (z k) (zyN k (zyR k (bw L G λx=>false) (zyI (i+1) (bh (i.toNat+1) (a_ (i+1)) Q))))))))))))))))))))))) (bh i.toNat k (zyR i.toNat (ah G) (zyB [] (zyB [] (zyN q.nw (zyR q.nw (av q.C) (zyN q.ng (zyR q.ng (aN q.G) (zyI q.a (zyI q.fl (zyB q.nu (zyB q.de (zyI q.top (zyB [48] (zyB [49] (zyR 5 aC (bh i.toNat k True)))))))))))))))))):=U
def wN(q)(f g)(V c)(d e)(a b)(i)(Q){h}(n:h=(fY {nw:=q.nw,C:=λj k=>cT (av q.C j) k,ng:=q.ng,G:=λj=>q.G j,a:=q.a,fl:=q.fl,nu:=q.nu,de:=q.de,top:=q.top} (f+a_ (i+1)) (a8 λi=>bif b_ i f then ah (a8 (ah V)) i else ah c (i-f)))){l}(o:l=(fZ {nw:=q.nw,C:=λj k=>cT (av q.C j) k,ng:=q.ng,G:=λj=>q.G j,a:=q.a,fl:=q.fl,nu:=q.nu,de:=q.de,top:=q.top} (f+a_ (i+1)) (a8 λi=>bif b_ i f then ah (a8 (ah V)) i else ah c (i-f)))){m}(p:m=((M (q.nw=q.nw)&&true&&g_ (c_ q.nw) λi=>M (q.C i 0=q.C i 0)&&(M (q.C i 1=q.C i 1)&&(M (q.C i 2=q.C i 2)&&true)))&&((M (q.ng=q.ng)&&true&&g_ (c_ q.ng) λi=>M (q.G i=q.G i)&&true)&&(M (q.a=q.a)&&(M (q.fl=q.fl)&&(M (q.nu=q.nu)&&(M (q.de=q.de)&&(M (q.top=q.top)&&true)))))))):(kr [gP,cG,cC,bR,jU,gL] [] 106 12001 19 (lU 111 112 113 q f g V c d e) (λ_=>lV 111 112 113 q a b) (λi=>i+1) Q i)=(ak (M (i<z g)) (B (b_ 0 f&&s_ f f&&bN f (ah V)&&s_ f 1000000000000&&true&&true) (B m (B (aJ d_ (i+1)) (B (M (0<=i+1)&&M (i+1<=z g)) (B (M (0<=i+1)&&M (i+1<=z g)) (B (M (a_ (i+1)=a_ (i+1))&&true) (B (M (f<=f)&&M (a_ (i+1)<=g)&&true&&M ((f+a_ (i+1))*8<=140737488355328)&&true) (B m (B ((g_ (c_ (f+a_ (i+1))) λi=>bj.free (bif b_ i f then ah (a8 (ah V)) i else ah c (i-f)))&&M (f+a_ (i+1)<=f+a_ (i+1))) (B ((jw [i_ q.nw 3 (av q.C),i_ q.ng 1 (aN q.G),f_ d_ q.a,f_ d_ q.fl,e_ q.nu,e_ q.de,f_ d_ q.top]&&fx {nw:=q.nw,C:=λj k=>cT (av q.C j) k,ng:=q.ng,G:=λj=>q.G j,a:=q.a,fl:=q.fl,nu:=q.nu,de:=q.de,top:=q.top}&&bN (f+a_ (i+1)) λi=>bif b_ i f then ah (a8 (ah V)) i else ah c (i-f))&&cJ (f+a_ (i+1)) (a8 λi=>bif b_ i f then ah (a8 (ah V)) i else ah c (i-f))) (B (bX h l&&bX (d i) (e i)) (ak (M (bO (aw h) (aw l) (aw (d i)) (aw (e i))>0)) (B (aJ d_ (i+1)) (eX h (d (i+1)) (eX l (e (i+1)) (zyN g (zyR g (ah c) (zyN f (an f (ah (a8 (ah V))) (ah V)/\zyB [] (zyB [] (zyN q.nw (zyR q.nw (av q.C) (zyN q.ng (zyR q.ng (aN q.G) (zyI q.a (zyI q.fl (zyB q.nu (zyB q.de (zyI q.top (zyB [48] (zyB [49] (zyR 5 aC (zyI (z g) (zyN f (zyI (i+1) (zyN g Q)))))))))))))))))))))))) (B (aJ d_ (i+1)) (eX (d i) (d (i+1)) (eX (e i) (e (i+1)) (zyN g (zyR g (ah c) (zyN f (an f (ah (a8 (ah V))) (ah V)/\zyB [] (zyB [] (zyN q.nw (zyR q.nw (av q.C) (zyN q.ng (zyR q.ng (aN q.G) (zyI q.a (zyI q.fl (zyB q.nu (zyB q.de (zyI q.top (zyB [48] (zyB [49] (zyR 5 aC (zyI (z g) (zyN f (zyI (i+1) (zyN g Q)))))))))))))))))))))))))))))))))))) (eX (d i) a (eX (e i) b (zyB [] (zyB [] (zyN q.nw (zyR q.nw (av q.C) (zyN q.ng (zyR q.ng (aN q.G) (zyI q.a (zyI q.fl (zyB q.nu (zyB q.de (zyI q.top (zyB [48] (zyB [49] (zyR 5 aC True))))))))))))))))):=by subst_vars;kernel_rfl
def uL(q)(f)(c)(d e)(a b)(i)(Q){g}(m:g=(fY {nw:=q.nw,C:=λj k=>cT (av q.C j) k,ng:=q.ng,G:=λj=>q.G j,a:=q.a,fl:=q.fl,nu:=q.nu,de:=q.de,top:=q.top} (a_ (i+1)) (a8 λi=>bif b_ i 0 then []else ah c (i-0)))){h}(n:h=(fZ {nw:=q.nw,C:=λj k=>cT (av q.C j) k,ng:=q.ng,G:=λj=>q.G j,a:=q.a,fl:=q.fl,nu:=q.nu,de:=q.de,top:=q.top} (a_ (i+1)) (a8 λi=>bif b_ i 0 then []else ah c (i-0)))){l}(o:l=((M (q.nw=q.nw)&&true&&g_ (c_ q.nw) λi=>M (q.C i 0=q.C i 0)&&(M (q.C i 1=q.C i 1)&&(M (q.C i 2=q.C i 2)&&true)))&&((M (q.ng=q.ng)&&true&&g_ (c_ q.ng) λi=>M (q.G i=q.G i)&&true)&&(M (q.a=q.a)&&(M (q.fl=q.fl)&&(M (q.nu=q.nu)&&(M (q.de=q.de)&&(M (q.top=q.top)&&true)))))))):(kr [gP,cG,cC,bR,jU,gL] [] 106 12001 18 (lW 111 112 113 q f c d e) (λ_=>lX 111 112 113 q a b) (λi=>i+1) Q i)=(ak (M (i<z f)) (B l (B (aJ d_ (i+1)) (B (M (0<=i+1)&&M (i+1<=z f)) (B (M (0<=i+1)&&M (i+1<=z f)) (B (M (a_ (i+1)=a_ (i+1))&&true) (B (M (a_ (i+1)<=f)&&true&&M ((0+a_ (i+1))*8<=140737488355328)&&true) (B l (B ((g_ (c_ (0+a_ (i+1))) λi=>bj.free (bif b_ i 0 then []else ah c (i-0)))&&M (a_ (i+1)<=0+a_ (i+1))) (B ((jw [i_ q.nw 3 (av q.C),i_ q.ng 1 (aN q.G),f_ d_ q.a,f_ d_ q.fl,e_ q.nu,e_ q.de,f_ d_ q.top]&&fx {nw:=q.nw,C:=λj k=>cT (av q.C j) k,ng:=q.ng,G:=λj=>q.G j,a:=q.a,fl:=q.fl,nu:=q.nu,de:=q.de,top:=q.top}&&bN (a_ (i+1)) λi=>bif b_ i 0 then []else ah c (i-0))&&cJ (a_ (i+1)) (a8 λi=>bif b_ i 0 then []else ah c (i-0))) (B (bX g h&&bX (d i) (e i)) (ak (M (bO (aw g) (aw h) (aw (d i)) (aw (e i))>0)) (B (aJ d_ (i+1)) (eX g (d (i+1)) (eX h (e (i+1)) (zyN f (zyR f (ah c) (zyB [] (zyB [] (zyN q.nw (zyR q.nw (av q.C) (zyN q.ng (zyR q.ng (aN q.G) (zyI q.a (zyI q.fl (zyB q.nu (zyB q.de (zyI q.top (zyB [48] (zyB [49] (zyR 5 aC (zyI (z f) (zyI (i+1) (zyN f Q)))))))))))))))))))))) (B (aJ d_ (i+1)) (eX (d i) (d (i+1)) (eX (e i) (e (i+1)) (zyN f (zyR f (ah c) (zyB [] (zyB [] (zyN q.nw (zyR q.nw (av q.C) (zyN q.ng (zyR q.ng (aN q.G) (zyI q.a (zyI q.fl (zyB q.nu (zyB q.de (zyI q.top (zyB [48] (zyB [49] (zyR 5 aC (zyI (z f) (zyI (i+1) (zyN f Q))))))))))))))))))))))))))))))))) (eX (d i) a (eX (e i) b (zyB [] (zyB [] (zyN q.nw (zyR q.nw (av q.C) (zyN q.ng (zyR q.ng (aN q.G) (zyI q.a (zyI q.fl (zyB q.nu (zyB q.de (zyI q.top (zyB [48] (zyB [49] (zyR 5 aC True))))))))))))))))):=by subst_vars;kernel_rfl
def SL(q)(k)(L G)(C)(h l)(V c)(g f)(d e)(a b)(Q):(kq [gP,cG,cC,bR,jU,gL] [(3001,16,sB 111 112 113 q k L G C h l V c 0,sC 111 112 113 q g f V c),(12001,19,lU 111 112 113 q g f V (cV f c) d e 0,lV 111 112 113 q a b)] 106 [.agg (aZ q),.ae k 3 (bw L G C),.fn 111 [] [],.fn 105 [] [],.fn 112 [] [],.fn 113 [] []] Q)=(ay PP II false (az II 106 3001) 16 (sB 111 112 113 q k L G C h l V c 0) (sC 111 112 113 q g f V c)/\bh (l 0) 0 (bh (h 0) 0 (zyB [] (zyB [] (zyN q.nw (zyR q.nw (av q.C) (zyN q.ng (zyR q.ng (aN q.G) (zyI q.a (zyI q.fl (zyB q.nu (zyB q.de (zyI q.top (zyB [48] (zyB [49] (zyR 5 aC (zyI (z k) (bh (h 0) 0 (zyN k (zyR k (bw L G C) (bh (l 0) 0 (B (bN f (ah c)&&n_ f f&&b_ f 4611686018427387904&&true&&true) (B ((g_ (c_ g) λi=>bj.free (ah V i))&&M (g<=g)) (B (jw [i_ q.nw 3 (av q.C),i_ q.ng 1 (aN q.G),f_ d_ q.a,f_ d_ q.fl,e_ q.nu,e_ q.de,f_ d_ q.top]&&fx {nw:=q.nw,C:=λj k=>cT (av q.C j) k,ng:=q.ng,G:=λj=>q.G j,a:=q.a,fl:=q.fl,nu:=q.nu,de:=q.de,top:=q.top}&&bN g (ah V)&&cJ g (a8 (ah V))) (ay PP II false (az II 106 12001) 19 (lU 111 112 113 q g f V (cV f c) d e 0) (lV 111 112 113 q a b)/\eX (fY {nw:=q.nw,C:=λj k=>cT (av q.C j) k,ng:=q.ng,G:=λj=>q.G j,a:=q.a,fl:=q.fl,nu:=q.nu,de:=q.de,top:=q.top} g (a8 (ah V))) (d 0) (eX (fZ {nw:=q.nw,C:=λj k=>cT (av q.C j) k,ng:=q.ng,G:=λj=>q.G j,a:=q.a,fl:=q.fl,nu:=q.nu,de:=q.de,top:=q.top} g (a8 (ah V))) (e 0) (zyN f (an f (ah (cV f (a8 (ah c)))) (ah (cV f c))/\zyN g (zyR g (ah V) (zyB [] (zyB [] (zyN q.nw (zyR q.nw (av q.C) (zyN q.ng (zyR q.ng (aN q.G) (zyI q.a (zyI q.fl (zyB q.nu (zyB q.de (zyI q.top (zyB [48] (zyB [49] (zyR 5 aC (zyI (z f) (zyN g (zyN f (Q (t_ [e_ a,e_ b])))))))))))))))))))))))))))))))))))))))))))))))):=U
def NW(q)(k)(L G)(c d)(a b)(Q):(kq [gP,cG,cC,bR,jU,gL] [(3001,16,lS 111 112 113 q k L G 0,lT 111 112 113 q k G),(12001,18,lW 111 112 113 q k (cV k G) c d 0,lX 111 112 113 q a b)] 106 [.agg (aZ q),.ae k 3 (bw L G λ_=>false),.fn 111 [] [],.fn 105 [] [],.fn 112 [] [],.fn 113 [] []] Q)=(ay PP II false (az II 106 3001) 16 (lS 111 112 113 q k L G 0) (lT 111 112 113 q k G)/\zyB [] (zyB [] (zyN q.nw (zyR q.nw (av q.C) (zyN q.ng (zyR q.ng (aN q.G) (zyI q.a (zyI q.fl (zyB q.nu (zyB q.de (zyI q.top (zyB [48] (zyB [49] (zyR 5 aC (zyI (z k) (zyN k (zyR k (bw L G λx=>false) (B (bN k (ah G)&&n_ k k&&b_ k 4611686018427387904&&true&&true) (B (jw [i_ q.nw 3 (av q.C),i_ q.ng 1 (aN q.G),f_ d_ q.a,f_ d_ q.fl,e_ q.nu,e_ q.de,f_ d_ q.top]&&fx {nw:=q.nw,C:=λj k=>cT (av q.C j) k,ng:=q.ng,G:=λj=>q.G j,a:=q.a,fl:=q.fl,nu:=q.nu,de:=q.de,top:=q.top}) (ay PP II false (az II 106 12001) 18 (lW 111 112 113 q k (cV k G) c d 0) (lX 111 112 113 q a b)/\eX (fY {nw:=q.nw,C:=λj k=>cT (av q.C j) k,ng:=q.ng,G:=λj=>q.G j,a:=q.a,fl:=q.fl,nu:=q.nu,de:=q.de,top:=q.top} 0 λx=>0) (c 0) (eX (fZ {nw:=q.nw,C:=λj k=>cT (av q.C j) k,ng:=q.ng,G:=λj=>q.G j,a:=q.a,fl:=q.fl,nu:=q.nu,de:=q.de,top:=q.top} 0 λx=>0) (d 0) (zyN k (an k (ah (cV k (a8 (ah G)))) (ah (cV k G))/\zyB [] (zyB [] (zyN q.nw (zyR q.nw (av q.C) (zyN q.ng (zyR q.ng (aN q.G) (zyI q.a (zyI q.fl (zyB q.nu (zyB q.de (zyI q.top (zyB [48] (zyB [49] (zyR 5 aC (zyI (z k) (zyN k (Q (t_ [e_ a,e_ b])))))))))))))))))))))))))))))))))))))))):=U
end
section
open Go.Sort Go.Shelf Go.Proofs
def CF(n)(L G)(C):an n (bw L G C) (bw L G C):=λ_ _ _=>⟨⟨rfl,rfl⟩,⟨rfl,rfl⟩,rfl,trivial⟩
def lh(n:Nat)(V a:Nat->Int)(i:Nat):Int:=bif b_ i n then V i else a (i-n)
def Cg(n)(V a):(a8 λi=>bif b_ i n then ah (a8 (ah V)) i else ah a (i-n))=lh n V a:=by
 funext i;show(match(bif b_ i n then ah (a8 (ah V)) i else ah a (i-n))with|[.int d_ n]=>n|_=>0)=(bif b_ i n then V i else a (i-n));cases b_ i n<;>rfl
def Ab(m n)(V a):bN m (λi=>bif b_ i n then ah (a8 (ah V)) i else ah a (i-n))=true:=List.all_eq_true.2 λi _=>by
 show(match(bif b_ i n then ah (a8 (ah V)) i else ah a (i-n))with|[.int d_ _]=>true|_=>false)=true;cases b_ i n<;>rfl
def F7(m n)(V a):((c_ m).all λi=>bj.free (bif b_ i n then ah (a8 (ah V)) i else ah a (i-n)))=true:=List.all_eq_true.2 λi _=>by
 show bj.free (bif b_ i n then ah (a8 (ah V)) i else ah a (i-n))=true;cases b_ i n<;>rfl
def Ac(a):(a8 λi=>bif b_ i 0 then []else ah a (i-0))=a:=by
 rfl
def wO(m)(a):bN m (λi=>bif b_ i 0 then []else ah a (i-0))=true:=List.all_eq_true.2 λi _=>by
 rfl
def Ch(m)(a):((c_ m).all λi=>bj.free (bif b_ i 0 then []else ah a (i-0)))=true:=List.all_eq_true.2 λi _=>by
 rfl
def dR{m n W}(h:cJ n W=true)(a:m<=n):cJ m W=true:=by
 obtain⟨b,c⟩:=eH h;unfold cJ;rw[il O,Bool.true_and,w_]
 grind
abbrev qX(q:Query):Query:=⟨q.nw,λj k=>cT (av q.C j) k,q.ng,λj=>q.G j,q.a,q.fl,q.nu,q.de,q.top⟩
def rc(q)(n)(W):fY ⟨q.nw,λj k=>cT (av q.C j) k,q.ng,λj=>q.G j,q.a,q.fl,q.nu,q.de,q.top⟩ n W=fY q n W:=rfl
def re(q)(n)(W):fZ ⟨q.nw,λj k=>cT (av q.C j) k,q.ng,λj=>q.G j,q.a,q.fl,q.nu,q.de,q.top⟩ n W=fZ q n W:=rfl
def uM(q):fx ⟨q.nw,λj k=>cT (av q.C j) k,q.ng,λj=>q.G j,q.a,q.fl,q.nu,q.de,q.top⟩=fx q:=rfl
def kV{q:Query}(b:ar 3 q.nw (av q.C)=true)(c:ar 1 q.ng (aN q.G)=true):jw [.ae q.nw 3 (av q.C),.ae q.ng 1 (aN q.G),.int d_ q.a,.int d_ q.fl,.str q.nu,.str q.de,.int d_ q.top]=true:=by
 show(ar 3 q.nw (av q.C)&&ar 1 q.ng (aN q.G))=true;rw[b,c];rfl
def K3(q:Query):((M (q.nw=q.nw)&&true&&(c_ q.nw).all λi=>M (q.C i 0=q.C i 0)&&(M (q.C i 1=q.C i 1)&&(M (q.C i 2=q.C i 2)&&true)))&&((M (q.ng=q.ng)&&true&&(c_ q.ng).all λi=>M (q.G i=q.G i)&&true)&&(M (q.a=q.a)&&(M (q.fl=q.fl)&&(M (q.nu=q.nu)&&(M (q.de=q.de)&&(M (q.top=q.top)&&true)))))))=true:=zA
def F8(q)(k)(L G)(C)(b c)(V a)(f g)(i)(m:Nat)(hi:i=(m:Int))(n:m<k)(o:k<=1000)(p:b i<=1000)(r:c i<=1000)
  (ht:C m=true->b (i+1)=b i+1/\V (b i)=L m/\c (i+1)=c i) (j:C m=false->c (i+1)=c i+1/\a (c i)=L m/\b (i+1)=b i) (Q) (hQ:Q):
  kr [gP,cG,cC,bR,oT,gK] [] 106 3001 16 (sB 107 108 110 q k L G C b c V a) (λ_=>sC 107 108 110 q f g V a) (λi=>i+1) Q i:=by
 rw[z8];have l:a_ i=m:=O;have s:z k=(k:Int):=rfl;rw[l];have d:aJ d_ (i+1)=true:=ai O O;refine aaA (λ_=>?_) O;refine ZE _ _ Y ?_;refine aaz (λh=>?_) λh=>?_
 ·obtain⟨k1,e,k2⟩:=ht h;have k1:=k1.symm;have k2:=k2.symm;have rows:=iY V (b i) (L m) e.symm;refine ZE _ _ Y (ZE _ _ d ?_);exact zX
 ·obtain⟨k1,e,k2⟩:=j h;have k1:=k1.symm;have k2:=k2.symm;have rows:=iY a (c i) (L m) e.symm;refine ZE _ _ Y (ZE _ _ d ?_);exact zX
def NX(q)(k:Nat)(L G)(C)(b c)(V a)(d e)(i)(hi:i=(k:Int))(k1:b i=d)(k2:c i=e)(Q):
  kr [gP,cG,cC,bR,oT,gK] [] 106 3001 16 (sB 107 108 110 q k L G C b c V a) (λ_=>sC 107 108 110 q d e V a) (λi=>i+1) Q i:=by
 rw[z8];have f:z k=(k:Int):=rfl;have hQ:=trivial;have rows:=trivial;refine aaA O λ_=>?_
 exact zX
def DR(q)(k)(L G)(i)(m:Nat)(hi:i=(m:Int))(d:m<k)(e:k<=1000)(Q)(hQ:Q):
  kr [gP,cG,cC,bR,oT,gK] [] 106 3001 16 (lS 107 108 110 q k L G) (λ_=>lT 107 108 110 q k L) (λi=>i+1) Q i:=by
 rw[wK];have b:a_ i=m:=O;have c:a_ (i+1)=m+1:=O;have f:z k=(k:Int):=rfl;rw[b,c];have a:aJ d_ (i+1)=true:=ai O O;have k1:=trivial;have k2:=trivial;have rows:=iY L m (L m) A;refine aaA (λ_=>?_) O;refine ZE _ _ Y (ZE _ _ Y (ZE _ _ a ?_));exact zX
def Jb(q)(k:Nat)(L G)(i)(hi:i=(k:Int))(Q):
  kr [gP,cG,cC,bR,oT,gK] [] 106 3001 16 (lS 107 108 110 q k L G) (λ_=>lT 107 108 110 q k L) (λi=>i+1) Q i:=by
 rw[wK];have a:z k=(k:Int):=rfl;have k1:a_ i=k:=O;have k2:=trivial;have hQ:=trivial;have rows:=trivial;rw[k1];refine aaA O λ_=>?_
 exact zX
def F9(q)(k)(L G)(C)(b c)(V a)(f g)(i)(m:Nat)(hi:i=(m:Int))(n:m<k)(o:k<=1000)(p:b i<=1000)(r:c i<=1000)
  (ht:C m=true->b (i+1)=b i+1/\V (b i)=G m/\c (i+1)=c i) (j:C m=false->c (i+1)=c i+1/\a (c i)=G m/\b (i+1)=b i) (Q) (hQ:Q):
  kr [gP,cG,cC,bR,jU,gL] [] 106 3001 16 (sB 111 112 113 q k L G C b c V a) (λ_=>sC 111 112 113 q f g V a) (λi=>i+1) Q i:=by
 rw[Aa];have l:a_ i=m:=O;have s:z k=(k:Int):=rfl;rw[l];have d:aJ d_ (i+1)=true:=ai O O;refine aaA (λ_=>?_) O;refine ZE _ _ Y ?_;refine aaz (λh=>?_) λh=>?_
 ·obtain⟨k1,e,k2⟩:=ht h;have k1:=k1.symm;have k2:=k2.symm;have rows:=iY V (b i) (G m) e.symm;refine ZE _ _ Y (ZE _ _ d ?_);exact zX
 ·obtain⟨k1,e,k2⟩:=j h;have k1:=k1.symm;have k2:=k2.symm;have rows:=iY a (c i) (G m) e.symm;refine ZE _ _ Y (ZE _ _ d ?_);exact zX
def NY(q)(k:Nat)(L G)(C)(b c)(V a)(d e)(i)(hi:i=(k:Int))(k1:b i=d)(k2:c i=e)(Q):
  kr [gP,cG,cC,bR,jU,gL] [] 106 3001 16 (sB 111 112 113 q k L G C b c V a) (λ_=>sC 111 112 113 q d e V a) (λi=>i+1) Q i:=by
 rw[Aa];have f:z k=(k:Int):=rfl;have hQ:=trivial;have rows:=trivial;refine aaA O λ_=>?_
 exact zX
def DS(q)(k)(L G)(i)(m:Nat)(hi:i=(m:Int))(d:m<k)(e:k<=1000)(Q)(hQ:Q):
  kr [gP,cG,cC,bR,jU,gL] [] 106 3001 16 (lS 111 112 113 q k L G) (λ_=>lT 111 112 113 q k G) (λi=>i+1) Q i:=by
 rw[wM];have b:a_ i=m:=O;have c:a_ (i+1)=m+1:=O;have f:z k=(k:Int):=rfl;rw[b,c];have a:aJ d_ (i+1)=true:=ai O O;have k1:=trivial;have k2:=trivial;have rows:=iY G m (G m) A;refine aaA (λ_=>?_) O;refine ZE _ _ Y (ZE _ _ Y (ZE _ _ a ?_));exact zX
def Jc(q)(k:Nat)(L G)(i)(hi:i=(k:Int))(Q):
  kr [gP,cG,cC,bR,jU,gL] [] 106 3001 16 (lS 111 112 113 q k L G) (λ_=>lT 111 112 113 q k G) (λi=>i+1) Q i:=by
 rw[wM];have a:z k=(k:Int):=rfl;have k1:a_ i=k:=O;have k2:=trivial;have hQ:=trivial;have rows:=trivial;rw[k1];refine aaA O λ_=>?_
 exact zX
def DT(q)(f g)(V c)(d e)(a b)(i)(m:Nat)(hi:i=(m:Int))(y:m<g)(p:0<f)(r:ar 3 q.nw (av q.C)=true)(s:ar 1 q.ng (aN q.G)=true)(n:fx q=true)(o:cJ (f+g) (lh f V c)=true)(t:bX (d i) (e i)=true)
  (u:bO (aw (fY q (f+(m+1)) (lh f V c))) (aw (fZ q (f+(m+1)) (lh f V c))) (aw (d i)) (aw (e i))<0->d (i+1)=fY q (f+(m+1)) (lh f V c)/\e (i+1)=fZ q (f+(m+1)) (lh f V c)) (v :¬ bO (aw (fY q (f+(m+1)) (lh f V c))) (aw (fZ q (f+(m+1)) (lh f V c))) (aw (d i)) (aw (e i))<0->d (i+1)=d i/\e (i+1)=e i) (Q) (hQ:Q):
  kr [gP,cG,cC,bR,oT,gK] [] 106 12001 19 (lU 107 108 110 q f g V c d e) (λ_=>lV 107 108 110 q a b) (λi=>i+1) Q i:=by
 obtain⟨D,_⟩:=eH o;rw[wL _ _ _ _ _ _ _ _ _ _ _ A A A];have w:a_ (i+1)=m+1:=O;have E:z g=(g:Int):=rfl;have k:=dR o (O:f+(m+1)<=f+g);have x:=cW k n;have j:aJ d_ (i+1)=true:=ai O O;have l:(M (0<=i+1)&&M (i+1<=z g))=true:=by simp only[ba,bl];omega
 have k1:=trivial;have k2:=trivial;have rows:=trivial;rw[w,Cg,Ab,F7,K3,kV r s,uM,n,rc,re,k,x,t];refine aaA (λ_=>?_) O;refine ZE _ _ (by rw[gj p,il (dP f),dL,il O];rfl) ?_;refine ZE _ _ A (ZE _ _ j (ZE _ _ l (ZE _ _ l (ZE _ _ zA (ZE _ _ Y (ZE _ _ A (ZE _ _ zA (ZE _ _ A (ZE _ _ A ?_)))))))));refine aaA (λh=>?_) λh=>?_
 ·have hA:=u h;refine ZE _ _ j ?_;exact zY
 ·have hA:=v h;refine ZE _ _ j ?_;exact zY
def Jd(q)(g f:Nat)(V c)(d e)(a b)(i)(hi:i=(f:Int))(hA:a=d i/\b=e i)(Q):
  kr [gP,cG,cC,bR,oT,gK] [] 106 12001 19 (lU 107 108 110 q g f V c d e) (λ_=>lV 107 108 110 q a b) (λi=>i+1) Q i:=by
 rw[wL _ _ _ _ _ _ _ _ _ _ _ A A A];have h:z f=(f:Int):=rfl;have hQ:=trivial;have k1:=trivial;have k2:=trivial;have rows:=trivial;refine aaA O λ_=>?_
 exact zY
def Bd(q)(f)(c)(d e)(a b)(i)(m:Nat)(hi:i=(m:Int))(w:m<f)(o:ar 3 q.nw (av q.C)=true)(p:ar 1 q.ng (aN q.G)=true)(l:fx q=true)(n:cJ (f) c=true)(r:bX (d i) (e i)=true)
  (s:bO (aw (fY q (m+1) c)) (aw (fZ q (m+1) c)) (aw (d i)) (aw (e i))<0->d (i+1)=fY q (m+1) c/\e (i+1)=fZ q (m+1) c) (t :¬ bO (aw (fY q (m+1) c)) (aw (fZ q (m+1) c)) (aw (d i)) (aw (e i))<0->d (i+1)=d i/\e (i+1)=e i) (Q) (hQ:Q):
  kr [gP,cG,cC,bR,oT,gK] [] 106 12001 18 (lW 107 108 110 q f c d e) (λ_=>lX 107 108 110 q a b) (λi=>i+1) Q i:=by
 obtain⟨x,_⟩:=eH n;rw[uK _ _ _ _ _ _ _ _ _ A A A];have u:a_ (i+1)=m+1:=O;have y:z f=(f:Int):=rfl;have j:=dR n (O:m+1<=f);have v:=cW j l;have g:aJ d_ (i+1)=true:=ai O O;have k:(M (0<=i+1)&&M (i+1<=z f))=true:=by simp only[ba,bl];omega
 have k1:=trivial;have k2:=trivial;have rows:=trivial;rw[u,Ac,wO,Ch,K3,kV o p,uM,l,rc,re,j,v,r];refine aaA (λ_=>?_) O;refine ZE _ _ A (ZE _ _ g (ZE _ _ k (ZE _ _ k (ZE _ _ zA (ZE _ _ Y (ZE _ _ A (ZE _ _ zA (ZE _ _ A (ZE _ _ A ?_)))))))));refine aaA (λh=>?_) λh=>?_
 ·have hA:=s h;refine ZE _ _ g ?_;exact zY
 ·have hA:=t h;refine ZE _ _ g ?_;exact zY
def Ga(q)(f:Nat)(c)(d e)(a b)(i)(hi:i=(f:Int))(hA:a=d i/\b=e i)(Q):
  kr [gP,cG,cC,bR,oT,gK] [] 106 12001 18 (lW 107 108 110 q f c d e) (λ_=>lX 107 108 110 q a b) (λi=>i+1) Q i:=by
 rw[uK _ _ _ _ _ _ _ _ _ A A A];have g:z f=(f:Int):=rfl;have hQ:=trivial;have k1:=trivial;have k2:=trivial;have rows:=trivial;refine aaA O λ_=>?_
 exact zY
def DU(q)(f g)(V c)(d e)(a b)(i)(m:Nat)(hi:i=(m:Int))(y:m<g)(p:0<f)(r:ar 3 q.nw (av q.C)=true)(s:ar 1 q.ng (aN q.G)=true)(n:fx q=true)(o:cJ (f+g) (lh f V c)=true)(t:bX (d i) (e i)=true)
  (u:bO (aw (fY q (f+(m+1)) (lh f V c))) (aw (fZ q (f+(m+1)) (lh f V c))) (aw (d i)) (aw (e i))>0->d (i+1)=fY q (f+(m+1)) (lh f V c)/\e (i+1)=fZ q (f+(m+1)) (lh f V c)) (v :¬ bO (aw (fY q (f+(m+1)) (lh f V c))) (aw (fZ q (f+(m+1)) (lh f V c))) (aw (d i)) (aw (e i))>0->d (i+1)=d i/\e (i+1)=e i) (Q) (hQ:Q):
  kr [gP,cG,cC,bR,jU,gL] [] 106 12001 19 (lU 111 112 113 q f g V c d e) (λ_=>lV 111 112 113 q a b) (λi=>i+1) Q i:=by
 obtain⟨D,_⟩:=eH o;rw[wN _ _ _ _ _ _ _ _ _ _ _ A A A];have w:a_ (i+1)=m+1:=O;have E:z g=(g:Int):=rfl;have k:=dR o (O:f+(m+1)<=f+g);have x:=cW k n;have j:aJ d_ (i+1)=true:=ai O O;have l:(M (0<=i+1)&&M (i+1<=z g))=true:=by simp only[ba,bl];omega
 have k1:=trivial;have k2:=trivial;have rows:=trivial;rw[w,Cg,Ab,F7,K3,kV r s,uM,n,rc,re,k,x,t];refine aaA (λ_=>?_) O;refine ZE _ _ (by rw[gj p,il (dP f),dL,il O];rfl) ?_;refine ZE _ _ A (ZE _ _ j (ZE _ _ l (ZE _ _ l (ZE _ _ zA (ZE _ _ Y (ZE _ _ A (ZE _ _ zA (ZE _ _ A (ZE _ _ A ?_)))))))));refine aaA (λh=>?_) λh=>?_
 ·have hA:=u h;refine ZE _ _ j ?_;exact zY
 ·have hA:=v h;refine ZE _ _ j ?_;exact zY
def Je(q)(g f:Nat)(V c)(d e)(a b)(i)(hi:i=(f:Int))(hA:a=d i/\b=e i)(Q):
  kr [gP,cG,cC,bR,jU,gL] [] 106 12001 19 (lU 111 112 113 q g f V c d e) (λ_=>lV 111 112 113 q a b) (λi=>i+1) Q i:=by
 rw[wN _ _ _ _ _ _ _ _ _ _ _ A A A];have h:z f=(f:Int):=rfl;have hQ:=trivial;have k1:=trivial;have k2:=trivial;have rows:=trivial;refine aaA O λ_=>?_
 exact zY
def Be(q)(f)(c)(d e)(a b)(i)(m:Nat)(hi:i=(m:Int))(w:m<f)(o:ar 3 q.nw (av q.C)=true)(p:ar 1 q.ng (aN q.G)=true)(l:fx q=true)(n:cJ (f) c=true)(r:bX (d i) (e i)=true)
  (s:bO (aw (fY q (m+1) c)) (aw (fZ q (m+1) c)) (aw (d i)) (aw (e i))>0->d (i+1)=fY q (m+1) c/\e (i+1)=fZ q (m+1) c) (t :¬ bO (aw (fY q (m+1) c)) (aw (fZ q (m+1) c)) (aw (d i)) (aw (e i))>0->d (i+1)=d i/\e (i+1)=e i) (Q) (hQ:Q):
  kr [gP,cG,cC,bR,jU,gL] [] 106 12001 18 (lW 111 112 113 q f c d e) (λ_=>lX 111 112 113 q a b) (λi=>i+1) Q i:=by
 obtain⟨x,_⟩:=eH n;rw[uL _ _ _ _ _ _ _ _ _ A A A];have u:a_ (i+1)=m+1:=O;have y:z f=(f:Int):=rfl;have j:=dR n (O:m+1<=f);have v:=cW j l;have g:aJ d_ (i+1)=true:=ai O O;have k:(M (0<=i+1)&&M (i+1<=z f))=true:=by simp only[ba,bl];omega
 have k1:=trivial;have k2:=trivial;have rows:=trivial;rw[u,Ac,wO,Ch,K3,kV o p,uM,l,rc,re,j,v,r];refine aaA (λ_=>?_) O;refine ZE _ _ A (ZE _ _ g (ZE _ _ k (ZE _ _ k (ZE _ _ zA (ZE _ _ Y (ZE _ _ A (ZE _ _ zA (ZE _ _ A (ZE _ _ A ?_)))))))));refine aaA (λh=>?_) λh=>?_
 ·have hA:=s h;refine ZE _ _ g ?_;exact zY
 ·have hA:=t h;refine ZE _ _ g ?_;exact zY
def Gb(q)(f:Nat)(c)(d e)(a b)(i)(hi:i=(f:Int))(hA:a=d i/\b=e i)(Q):
  kr [gP,cG,cC,bR,jU,gL] [] 106 12001 18 (lW 111 112 113 q f c d e) (λ_=>lX 111 112 113 q a b) (λi=>i+1) Q i:=by
 rw[uL _ _ _ _ _ _ _ _ _ A A A];have g:z f=(f:Int):=rfl;have hQ:=trivial;have k1:=trivial;have k2:=trivial;have rows:=trivial;refine aaA O λ_=>?_
 exact zY
end
section
open Go.Sort Go.Shelf Go.Proofs
def aW(p:Nat->Bool)(k:Nat):Nat:=((c_ k).filter p).length
def ct(p:Nat->Bool)(W:Nat->Int)(k j:Nat):Int:=(((c_ k).filter p).map W).getD j 0
def lj{p m}(h:p m=true):aW p (m+1)=aW p m+1:=by
 unfold aW;rw[y_,o_,u_];simp[h]
def nX{p m}(h:p m=false):aW p (m+1)=aW p m:=by
 unfold aW;rw[y_,o_,u_];simp[h]
def qa(p)(k):aW p k<=k:=by
 unfold aW
 grind
def oX(p):∀k,aW p k+aW (λi=>!p i) k=k
 |0=>rfl
 |k+1=>by
  have a:=oX p k;cases h:p k with
  |true=>rw[lj h,nX (p:=λi=>!p i) Y];omega
  |false=>rw[nX h,lj (p:=λi=>!p i) Y];omega
def xC{p W k m}(a:m<k)(h:p m=true):ct p W k (aW p m)=W m:=by
 unfold ct aW;obtain⟨r,rfl⟩:∃r,k=m+(r+1):=⟨k-m-1,O⟩;rw[List.range_add,List.range_succ_eq_map,List.map_cons,o_,List.filter_cons,Nat.add_zero,h];simp
def SM{p W k j}(a:j<aW p k):∃m,m<k/\ct p W k j=W m:=by
 unfold ct;rw[r_,oa (by simpa [aW]using a)];have:(((c_ k).filter p).map W)[j]'(by simpa [aW]using a)∈((c_ k).filter p).map W:=x_ _
 grind
def Gc{p:Nat->Bool}{k:Nat}(h:(c_ k).any p=true):0<aW p k:=by
 obtain⟨m,a,b⟩:=List.any_eq_true.1 h;exact List.length_pos_iff.2 (List.ne_nil_of_mem (List.mem_filter.2 ⟨a,b⟩))
def Jf{k W i}(hi:i<k):∃j,j<k/\cV k W i=W j:=by
 have a:=p5 (ltOf A8) k W;have:cV k W i∈iz (ltOf A8) k W:=by unfold cV;rw[r_,oa O];exact x_ _
 unfold iz at this;rw[List.mem_mergeSort]at this
 grind
def gN(W:Nat->Int)(k:Nat):Prop := ∀i,i<k->0<=W i/\W i<=4398046511104
def dN{k W}(a:k<=1000)(h:gN W k):cJ k W=true:=by
 unfold cJ;rw[il a,Bool.true_and,w_];intro i hi;obtain⟨h3,h4⟩:=h i (List.mem_range.1 hi)
 grind
def ia{p W k}(h:gN W k):gN (ct p W k) (aW p k):=λj a=>by
 obtain⟨m,b,c⟩:=SM (W:=W) a;rw[c];exact h m b
def si{V a n m}(b:gN V n)(c:gN a m):gN (lh n V a) (n+m):=λi hi=>by
 show 0<=(bif b_ i n then V i else a (i-n))/\(bif b_ i n then V i else a (i-n))<=_;by_cases h:i<n
 ·rw[gj h];exact b i h
 ·rw[lR h];exact c (i-n) O
def aT(better:Int->Bool)(R:Nat->List UInt8×List UInt8):Nat->List UInt8×List UInt8
 |0=>R 0
 |i+1=>match better (bO (aw (R (i+1)).1) (aw (R (i+1)).2) (aw (aT better R i).1) (aw (aT better R i).2))with
  |true=>R (i+1)
  |false=>aT better R i
def gU{better R}:∀i,∃j,j<=i/\aT better R i=R j
 |0=>⟨0,dP _,rfl⟩
 |i+1=>by
  obtain⟨j,a,e⟩:=gU (better:=better) (R:=R) i;show ∃j,j<=i+1/\(match better _ with|true=>R (i+1)|false=>aT better R i)=R j
  grind
def bZ(q:Query)(b:Nat)(V a:Nat->Int):Nat->List UInt8×List UInt8
 |0=>(fY q b V,fZ q b V)
 |i+1=>(fY q (b+(i+1)) (lh b V a),fZ q (b+(i+1)) (lh b V a))
def bC(q:Query)(a:Nat->Int):Nat->List UInt8×List UInt8
 |0=>(fY q 0 λ_=>0,fZ q 0 λ_=>0)
 |i+1=>(fY q (i+1) a,fZ q (i+1) a)
def jx(q:Query)(k:Nat)(W:Nat->Int)(C:Nat->Bool):List UInt8×List UInt8:=match(c_ k).any C with
 |true=>aT (λc=>M (c<0)) (bZ q (aW C k) (ct C W k) (cn (aW (λi=>!C i) k) (ct (λi=>!C i) W k))) (aW (λi=>!C i) k)
 |false=>aT (λc=>M (c<0)) (bC q (cn k W)) k
def l9{W k}(h:gN W k):gN (cn k W) k:=λi hi=>by
 obtain⟨j,a,e⟩:=tz (W:=W) hi;rw[e];exact h j a
def Gd(q)(k)(L G)(C)(f:k<=1000):ay PP II false (az II 106 3001) 16 (sB 107 108 110 q k L G C (λi=>aW C i.toNat) (λi=>aW (λi=>!C i) i.toNat) (ct C L k) (ct (λi=>!C i) L k) 0) (sC 107 108 110 q (aW C k) (aW (λi=>!C i) k) (ct C L k) (ct (λi=>!C i) L k)):=by
 have key:=ay.of (ι:=Nat) fU [gP,cG,cC,bR,oT,gK] (aX PP II []) 1000 (c:=az II 106 3001) (ir:=false) 16 (λi=>i<=k) (λi=>sB 107 108 110 q k L G C (λi=>aW C i.toNat) (λi=>aW (λi=>!C i) i.toNat) (ct C L k) (ct (λi=>!C i) L k) (i:Int)) (λ_=>sC 107 108 110 q (aW C k) (aW (λi=>!C i) k) (ct C L k) (ct (λi=>!C i) L k)) (λi=>k-i) (λi=>i+1) 0 A (h_ _) λi hi=>?_
 ·exact key
 have hi:i<=k:=hi;have b:((i:Int)).toNat=i:=O;have d:((i:Int)+1).toNat=i+1:=O;by_cases a:i<k
 ·have l1:=qa C i;have l2:=qa (λi=>!C i) i;refine F8 q k L G C _ _ _ _ _ _ (i:Int) i A a f ?_ ?_ (λh=>?_) (λh=>?_) _ Y
  grind
  grind
  ·show aW C ((i:Int)+1).toNat=aW C ((i:Int)).toNat+1/\ct C L k (aW C ((i:Int)).toNat)=L i/\aW (λi=>!C i) ((i:Int)+1).toNat=aW (λi=>!C i) ((i:Int)).toNat;rw[b,d];exact⟨lj h,xC a h,nX (p:=λi=>!C i) Y⟩
  ·have e:(λi=>!C i) i=true:=by show(!C i)=true;rw[h];rfl
   show aW (λi=>!C i) ((i:Int)+1).toNat=aW (λi=>!C i) ((i:Int)).toNat+1/\ct (λi=>!C i) L k (aW (λi=>!C i) ((i:Int)).toNat)=L i/\aW C ((i:Int)+1).toNat=aW C ((i:Int)).toNat;rw[b,d];exact⟨lj e,xC a e,nX h⟩
 ·have hi:i=k:=by omega
  subst hi;refine NX q i L G C _ _ _ _ _ _ (i:Int) A ?_ ?_ _
  all_goals rfl
def DV(q)(k)(L G)(b:k<=1000):ay PP II false (az II 106 3001) 16 (lS 107 108 110 q k L G 0) (lT 107 108 110 q k L):=by
 have key:=ay.of (ι:=Nat) fU [gP,cG,cC,bR,oT,gK] (aX PP II []) 1000 (c:=az II 106 3001) (ir:=false) 16 (λi=>i<=k) (λi=>lS 107 108 110 q k L G (i:Int)) (λ_=>lT 107 108 110 q k L) (λi=>k-i) (λi=>i+1) 0 A (h_ _) λi hi=>?_
 ·exact key
 have hi:i<=k:=hi;by_cases a:i<k
 ·exact DR q k L G (i:Int) i A a b _ Y
 ·have hi:i=k:=by omega
  subst hi;exact Jb q i L G (i:Int) A _
def Ge(q)(b d)(V a)(m:0<b)(n:ar 3 q.nw (av q.C)=true)(o:ar 1 q.ng (aN q.G)=true)(f:fx q=true)(p:b+d<=1000)(k:gN V b)(r:gN a d):
  ay PP II false (az II 106 12001) 19 (lU 107 108 110 q b d V a (λi=>(aT (λc=>M (c<0)) (bZ q b V a) i.toNat).1) (λi=>(aT (λc=>M (c<0)) (bZ q b V a) i.toNat).2) 0) (lV 107 108 110 q (aT (λc=>M (c<0)) (bZ q b V a) d).1 (aT (λc=>M (c<0)) (bZ q b V a) d).2):=by
 have l:=dN p (si k r);have s:∀i,i<=d->bX (bZ q b V a i).1 (bZ q b V a i).2=true:=λi hi=>by
  cases i with
  |zero=>exact cW (dN O k) f
  |succ i=>exact cW (dR l O) f
 have t:∀i,i<=d->bX (aT (λc=>M (c<0)) (bZ q b V a) i).1 (aT (λc=>M (c<0)) (bZ q b V a) i).2=true:=λi hi=>by
  obtain⟨j,u,e⟩:=gU (better:=λc=>M (c<0)) (R:=bZ q b V a) i
  grind
 have v:∀i,(aT (λc=>M (c<0)) (bZ q b V a) (i+1))=match M (bO (aw (fY q (b+(i+1)) (lh b V a))) (aw (fZ q (b+(i+1)) (lh b V a))) (aw (aT (λc=>M (c<0)) (bZ q b V a) i).1) (aw (aT (λc=>M (c<0)) (bZ q b V a) i).2)<0)with|true=>(fY q (b+(i+1)) (lh b V a),fZ q (b+(i+1)) (lh b V a))|false=>aT (λc=>M (c<0)) (bZ q b V a) i:=λi=>rfl
 generalize aT (λc=>M (c<0)) (bZ q b V a)=Z at*;have key:=ay.of (ι:=Nat) fU [gP,cG,cC,bR,oT,gK] (aX PP II []) 1000 (c:=az II 106 12001) (ir:=false) 19 (λi=>i<=d) (λi=>lU 107 108 110 q b d V a (λi=>(Z i.toNat).1) (λi=>(Z i.toNat).2) (i:Int)) (λ_=>lV 107 108 110 q (Z d).1 (Z d).2) (λi=>d-i) (λi=>i+1) 0 A (h_ _) λi hi=>?_
 ·exact key
 have hi:i<=d:=hi;have w:((i:Int)).toNat=i:=O;have x:((i:Int)+1).toNat=i+1:=O;by_cases g:i<d
 ·refine DT q b d V a _ _ _ _ (i:Int) i A g m n o f l ?_ (λh=>?_) (λh=>?_) _ Y
  all_goals grind
 ·have hi:i=d:=by omega
  subst hi;refine Jd q b i V a _ _ _ _ (i:Int) A ?_ _;simp
def DW(q)(b)(a)(l:ar 3 q.nw (av q.C)=true)(m:ar 1 q.ng (aN q.G)=true)(d:fx q=true)(n:b<=1000)(o:gN a b):
  ay PP II false (az II 106 12001) 18 (lW 107 108 110 q b a (λi=>(aT (λc=>M (c<0)) (bC q a) i.toNat).1) (λi=>(aT (λc=>M (c<0)) (bC q a) i.toNat).2) 0) (lX 107 108 110 q (aT (λc=>M (c<0)) (bC q a) b).1 (aT (λc=>M (c<0)) (bC q a) b).2):=by
 have g:=dN n o;have p:∀i,i<=b->bX (bC q a i).1 (bC q a i).2=true:=λi hi=>by
  cases i with
  |zero=>exact cW (k:=0) (W:=λ_=>0) A d
  |succ i=>exact cW (dR g O) d
 have r:∀i,i<=b->bX (aT (λc=>M (c<0)) (bC q a) i).1 (aT (λc=>M (c<0)) (bC q a) i).2=true:=λi hi=>by
  obtain⟨j,s,e⟩:=gU (better:=λc=>M (c<0)) (R:=bC q a) i
  grind
 have t:∀i,(aT (λc=>M (c<0)) (bC q a) (i+1))=match M (bO (aw (fY q (i+1) a)) (aw (fZ q (i+1) a)) (aw (aT (λc=>M (c<0)) (bC q a) i).1) (aw (aT (λc=>M (c<0)) (bC q a) i).2)<0)with|true=>(fY q (i+1) a,fZ q (i+1) a)|false=>aT (λc=>M (c<0)) (bC q a) i:=λi=>rfl
 generalize aT (λc=>M (c<0)) (bC q a)=Z at*;have key:=ay.of (ι:=Nat) fU [gP,cG,cC,bR,oT,gK] (aX PP II []) 1000 (c:=az II 106 12001) (ir:=false) 18 (λi=>i<=b) (λi=>lW 107 108 110 q b a (λi=>(Z i.toNat).1) (λi=>(Z i.toNat).2) (i:Int)) (λ_=>lX 107 108 110 q (Z b).1 (Z b).2) (λi=>b-i) (λi=>i+1) 0 A (h_ _) λi hi=>?_
 ·exact key
 have hi:i<=b:=hi;have u:((i:Int)).toNat=i:=O;have v:((i:Int)+1).toNat=i+1:=O;by_cases f:i<b
 ·refine Bd q b a _ _ _ _ (i:Int) i A f l m d g ?_ (λh=>?_) (λh=>?_) _ Y
  all_goals grind
 ·have hi:i=b:=by omega
  subst hi;refine Ga q i a _ _ _ _ (i:Int) A ?_ _;simp
def jy(q:Query)(k:Nat)(W:Nat->Int)(C:Nat->Bool):List UInt8×List UInt8:=match(c_ k).any C with
 |true=>aT (λc=>M (c>0)) (bZ q (aW C k) (ct C W k) (cV (aW (λi=>!C i) k) (ct (λi=>!C i) W k))) (aW (λi=>!C i) k)
 |false=>aT (λc=>M (c>0)) (bC q (cV k W)) k
def ma{W k}(h:gN W k):gN (cV k W) k:=λi hi=>by
 obtain⟨j,a,e⟩:=Jf (W:=W) hi;rw[e];exact h j a
def Gf(q)(k)(L G)(C)(f:k<=1000):ay PP II false (az II 106 3001) 16 (sB 111 112 113 q k L G C (λi=>aW C i.toNat) (λi=>aW (λi=>!C i) i.toNat) (ct C G k) (ct (λi=>!C i) G k) 0) (sC 111 112 113 q (aW C k) (aW (λi=>!C i) k) (ct C G k) (ct (λi=>!C i) G k)):=by
 have key:=ay.of (ι:=Nat) fU [gP,cG,cC,bR,jU,gL] (aX PP II []) 1000 (c:=az II 106 3001) (ir:=false) 16 (λi=>i<=k) (λi=>sB 111 112 113 q k L G C (λi=>aW C i.toNat) (λi=>aW (λi=>!C i) i.toNat) (ct C G k) (ct (λi=>!C i) G k) (i:Int)) (λ_=>sC 111 112 113 q (aW C k) (aW (λi=>!C i) k) (ct C G k) (ct (λi=>!C i) G k)) (λi=>k-i) (λi=>i+1) 0 A (h_ _) λi hi=>?_
 ·exact key
 have hi:i<=k:=hi;have b:((i:Int)).toNat=i:=O;have d:((i:Int)+1).toNat=i+1:=O;by_cases a:i<k
 ·have l1:=qa C i;have l2:=qa (λi=>!C i) i;refine F9 q k L G C _ _ _ _ _ _ (i:Int) i A a f ?_ ?_ (λh=>?_) (λh=>?_) _ Y
  grind
  grind
  ·show aW C ((i:Int)+1).toNat=aW C ((i:Int)).toNat+1/\ct C G k (aW C ((i:Int)).toNat)=G i/\aW (λi=>!C i) ((i:Int)+1).toNat=aW (λi=>!C i) ((i:Int)).toNat;rw[b,d];exact⟨lj h,xC a h,nX (p:=λi=>!C i) Y⟩
  ·have e:(λi=>!C i) i=true:=by show(!C i)=true;rw[h];rfl
   show aW (λi=>!C i) ((i:Int)+1).toNat=aW (λi=>!C i) ((i:Int)).toNat+1/\ct (λi=>!C i) G k (aW (λi=>!C i) ((i:Int)).toNat)=G i/\aW C ((i:Int)+1).toNat=aW C ((i:Int)).toNat;rw[b,d];exact⟨lj e,xC a e,nX h⟩
 ·have hi:i=k:=by omega
  subst hi;refine NY q i L G C _ _ _ _ _ _ (i:Int) A ?_ ?_ _
  all_goals rfl
def DX(q)(k)(L G)(b:k<=1000):ay PP II false (az II 106 3001) 16 (lS 111 112 113 q k L G 0) (lT 111 112 113 q k G):=by
 have key:=ay.of (ι:=Nat) fU [gP,cG,cC,bR,jU,gL] (aX PP II []) 1000 (c:=az II 106 3001) (ir:=false) 16 (λi=>i<=k) (λi=>lS 111 112 113 q k L G (i:Int)) (λ_=>lT 111 112 113 q k G) (λi=>k-i) (λi=>i+1) 0 A (h_ _) λi hi=>?_
 ·exact key
 have hi:i<=k:=hi;by_cases a:i<k
 ·exact DS q k L G (i:Int) i A a b _ Y
 ·have hi:i=k:=by omega
  subst hi;exact Jc q i L G (i:Int) A _
def Gg(q)(b d)(V a)(m:0<b)(n:ar 3 q.nw (av q.C)=true)(o:ar 1 q.ng (aN q.G)=true)(f:fx q=true)(p:b+d<=1000)(k:gN V b)(r:gN a d):
  ay PP II false (az II 106 12001) 19 (lU 111 112 113 q b d V a (λi=>(aT (λc=>M (c>0)) (bZ q b V a) i.toNat).1) (λi=>(aT (λc=>M (c>0)) (bZ q b V a) i.toNat).2) 0) (lV 111 112 113 q (aT (λc=>M (c>0)) (bZ q b V a) d).1 (aT (λc=>M (c>0)) (bZ q b V a) d).2):=by
 have l:=dN p (si k r);have s:∀i,i<=d->bX (bZ q b V a i).1 (bZ q b V a i).2=true:=λi hi=>by
  cases i with
  |zero=>exact cW (dN O k) f
  |succ i=>exact cW (dR l O) f
 have t:∀i,i<=d->bX (aT (λc=>M (c>0)) (bZ q b V a) i).1 (aT (λc=>M (c>0)) (bZ q b V a) i).2=true:=λi hi=>by
  obtain⟨j,u,e⟩:=gU (better:=λc=>M (c>0)) (R:=bZ q b V a) i
  grind
 have v:∀i,(aT (λc=>M (c>0)) (bZ q b V a) (i+1))=match M (bO (aw (fY q (b+(i+1)) (lh b V a))) (aw (fZ q (b+(i+1)) (lh b V a))) (aw (aT (λc=>M (c>0)) (bZ q b V a) i).1) (aw (aT (λc=>M (c>0)) (bZ q b V a) i).2)>0)with|true=>(fY q (b+(i+1)) (lh b V a),fZ q (b+(i+1)) (lh b V a))|false=>aT (λc=>M (c>0)) (bZ q b V a) i:=λi=>rfl
 generalize aT (λc=>M (c>0)) (bZ q b V a)=Z at*;have key:=ay.of (ι:=Nat) fU [gP,cG,cC,bR,jU,gL] (aX PP II []) 1000 (c:=az II 106 12001) (ir:=false) 19 (λi=>i<=d) (λi=>lU 111 112 113 q b d V a (λi=>(Z i.toNat).1) (λi=>(Z i.toNat).2) (i:Int)) (λ_=>lV 111 112 113 q (Z d).1 (Z d).2) (λi=>d-i) (λi=>i+1) 0 A (h_ _) λi hi=>?_
 ·exact key
 have hi:i<=d:=hi;have w:((i:Int)).toNat=i:=O;have x:((i:Int)+1).toNat=i+1:=O;by_cases g:i<d
 ·refine DU q b d V a _ _ _ _ (i:Int) i A g m n o f l ?_ (λh=>?_) (λh=>?_) _ Y
  all_goals grind
 ·have hi:i=d:=by omega
  subst hi;refine Je q b i V a _ _ _ _ (i:Int) A ?_ _;simp
def DY(q)(b)(a)(l:ar 3 q.nw (av q.C)=true)(m:ar 1 q.ng (aN q.G)=true)(d:fx q=true)(n:b<=1000)(o:gN a b):
  ay PP II false (az II 106 12001) 18 (lW 111 112 113 q b a (λi=>(aT (λc=>M (c>0)) (bC q a) i.toNat).1) (λi=>(aT (λc=>M (c>0)) (bC q a) i.toNat).2) 0) (lX 111 112 113 q (aT (λc=>M (c>0)) (bC q a) b).1 (aT (λc=>M (c>0)) (bC q a) b).2):=by
 have g:=dN n o;have p:∀i,i<=b->bX (bC q a i).1 (bC q a i).2=true:=λi hi=>by
  cases i with
  |zero=>exact cW (k:=0) (W:=λ_=>0) A d
  |succ i=>exact cW (dR g O) d
 have r:∀i,i<=b->bX (aT (λc=>M (c>0)) (bC q a) i).1 (aT (λc=>M (c>0)) (bC q a) i).2=true:=λi hi=>by
  obtain⟨j,s,e⟩:=gU (better:=λc=>M (c>0)) (R:=bC q a) i
  grind
 have t:∀i,(aT (λc=>M (c>0)) (bC q a) (i+1))=match M (bO (aw (fY q (i+1) a)) (aw (fZ q (i+1) a)) (aw (aT (λc=>M (c>0)) (bC q a) i).1) (aw (aT (λc=>M (c>0)) (bC q a) i).2)>0)with|true=>(fY q (i+1) a,fZ q (i+1) a)|false=>aT (λc=>M (c>0)) (bC q a) i:=λi=>rfl
 generalize aT (λc=>M (c>0)) (bC q a)=Z at*;have key:=ay.of (ι:=Nat) fU [gP,cG,cC,bR,jU,gL] (aX PP II []) 1000 (c:=az II 106 12001) (ir:=false) 18 (λi=>i<=b) (λi=>lW 111 112 113 q b a (λi=>(Z i.toNat).1) (λi=>(Z i.toNat).2) (i:Int)) (λ_=>lX 111 112 113 q (Z b).1 (Z b).2) (λi=>b-i) (λi=>i+1) 0 A (h_ _) λi hi=>?_
 ·exact key
 have hi:i<=b:=hi;have u:((i:Int)).toNat=i:=O;have v:((i:Int)+1).toNat=i+1:=O;by_cases f:i<b
 ·refine Be q b a _ _ _ _ (i:Int) i A f l m d g ?_ (λh=>?_) (λh=>?_) _ Y
  all_goals grind
 ·have hi:i=b:=by omega
  subst hi;refine Gb q i a _ _ _ _ (i:Int) A ?_ _;simp
end
section
open Go.Sort Go.Shelf Go.Proofs
def K4(x:List UInt8×List UInt8)(σ):B_ σ (.agg [.str x.1,.str x.2]) (.agg [.str x.1,.str x.2]):=⟨rfl,rfl,trivial⟩
def sT(n)(W):((c_ n).all λi=>bj.free (ah W i))=true:=List.all_eq_true.2 λ_ _=>rfl
def kP(W):a8 (ah W)=W:=rfl
def SN{q k L G C}(b:ar 3 q.nw (av q.C)=true)(d:ar 1 q.ng (aN q.G)=true)(e:fx q=true)(f:k<=1000)(g:gN L k):
  af PP II 106 [.agg (aZ q),.ae k 3 (bw L G C),.fn 107 [] [],.fn 105 [] [],.fn 108 [] [],.fn 110 [] []] HR (.ret (.agg [.str (jx q k L C).1,.str (jx q k L C).2]) HR):=by
 unfold jx;have a:=K4;cases n:(c_ k).any C with
 |true=>
  have n0:=Gc n;have v:=oX C k;have l:=ia (p:=C) g;have h:=ia (p:=λi=>!C i) g;have lp:=Gd q k L G C f;have lp2:=Ge q (aW C k) (aW (λi=>!C i) k) (ct C L k) (cn (aW (λi=>!C i) k) (ct (λi=>!C i) L k)) n0 b d e O l (l9 h);refine wH (ks:=[gP,cG,cC,bR,oT,gK]) (T:=[(3001,16,sB 107 108 110 q k L G C (λi=>aW C i.toNat) (λi=>aW (λi=>!C i) i.toNat) (ct C L k) (ct (λi=>!C i) L k) 0,sC 107 108 110 q (aW C k) (aW (λi=>!C i) k) (ct C L k) (ct (λi=>!C i) L k)),(12001,19,lU 107 108 110 q (aW C k) (aW (λi=>!C i) k) (ct C L k) (cn (aW (λi=>!C i) k) (ct (λi=>!C i) L k)) (λi=>(aT (λc=>M (c<0)) (bZ q (aW C k) (ct C L k) (cn (aW (λi=>!C i) k) (ct (λi=>!C i) L k))) i.toNat).1) (λi=>(aT (λc=>M (c<0)) (bZ q (aW C k) (ct C L k) (cn (aW (λi=>!C i) k) (ct (λi=>!C i) L k))) i.toNat).2) 0,lV 107 108 110 q (aT (λc=>M (c<0)) (bZ q (aW C k) (ct C L k) (cn (aW (λi=>!C i) k) (ct (λi=>!C i) L k))) (aW (λi=>!C i) k)).1 (aT (λc=>M (c<0)) (bZ q (aW C k) (ct C L k) (cn (aW (λi=>!C i) k) (ct (λi=>!C i) L k))) (aW (λi=>!C i) k)).2)]) ?_;rw[SK];have a1:(bN (aW (λi=>!C i) k) (ah (ct (λi=>!C i) L k))&&n_ (aW (λi=>!C i) k) (aW (λi=>!C i) k)&&b_ (aW (λi=>!C i) k) 4611686018427387904&&true&&true)=true:=by rw[dL,qy,gj O];rfl
  have a2:(((c_ (aW C k)).all λi=>bj.free (ah (ct C L k) i))&&M (aW C k<=aW C k))=true:=by rw[sT,bK (dP _)];rfl
  have o:=dN O l;have z1:aW C (0:Int).toNat=0:=rfl;have z2:aW (λi=>!C i) (0:Int).toNat=0:=rfl;have j:aT (λc=>M (c<0)) (bZ q (aW C k) (ct C L k) (cn (aW (λi=>!C i) k) (ct (λi=>!C i) L k))) (0:Int).toNat=(fY q (aW C k) (ct C L k),fZ q (aW C k) (ct C L k)):=rfl;rw[kP,kP,kV b d,uM,e,rc,re];simp only[j];generalize aT (λc=>M (c<0)) (bZ q (aW C k) (ct C L k) (cn (aW (λi=>!C i) k) (ct (λi=>!C i) L k)))=Z at*;generalize aW (λi=>!C i) k=r at*;generalize aW C k=m at*;have a4:(true&&true&&bN m (ah (ct C L k))&&cJ m (ct C L k))=true:=by rw[dL,o];rfl
  have hQ:=a (Z r);exact zZ
 |false=>
  have s:∀i,i<k->C i=false:=by simp_all
  have h:=l9 g;have lp:=DV q k L G f;have lp2:=DW q k (cn k L) b d e f h;have key:af PP II 106 [.agg (aZ q),.ae k 3 (bw L G λ_=>false),.fn 107 [] [],.fn 105 [] [],.fn 108 [] [],.fn 110 [] []] HR (.ret (.agg [.str (aT (λc=>M (c<0)) (bC q (cn k L)) k).1,.str (aT (λc=>M (c<0)) (bC q (cn k L)) k).2]) HR):=by
   refine wH (ks:=[gP,cG,cC,bR,oT,gK]) (T:=[(3001,16,lS 107 108 110 q k L G 0,lT 107 108 110 q k L),(12001,18,lW 107 108 110 q k (cn k L) (λi=>(aT (λc=>M (c<0)) (bC q (cn k L)) i.toNat).1) (λi=>(aT (λc=>M (c<0)) (bC q (cn k L)) i.toNat).2) 0,lX 107 108 110 q (aT (λc=>M (c<0)) (bC q (cn k L)) k).1 (aT (λc=>M (c<0)) (bC q (cn k L)) k).2)]) ?_;rw[NU];have a1:(bN k (ah L)&&n_ k k&&b_ k 4611686018427387904&&true&&true)=true:=by rw[dL,qy,gj O];rfl
   have j:aT (λc=>M (c<0)) (bC q (cn k L)) (0:Int).toNat=(fY q 0 (λ_=>0),fZ q 0 (λ_=>0)):=rfl;rw[kP,kV b d,uM,e,rc,re];simp only[j];generalize aT (λc=>M (c<0)) (bC q (cn k L))=Z at*;have hQ:=a (Z k);exact ZA
  intro c ρ w vs hG t u;refine key c ρ w vs hG (aV.yA (show bj.le _ [.agg (aZ q),.ae k 3 (bw L G C),.fn 107 [] [],.fn 105 [] [],.fn 108 [] [],.fn 110 [] []] [.agg (aZ q),.ae k 3 (bw L G λ_=>false),.fn 107 [] [],.fn 105 [] [],.fn 108 [] [],.fn 110 [] []]from⟨⟨⟨rfl,rfl,λi hi=>ku _ _ _⟩,⟨rfl,rfl,λi hi=>pZ _ _ _⟩,⟨rfl,rfl⟩,⟨rfl,rfl⟩,rfl,rfl,⟨rfl,rfl⟩,trivial⟩,⟨rfl,rfl,λi hi=>⟨⟨rfl,rfl⟩,⟨rfl,rfl⟩,s i hi,trivial⟩⟩,⟨rfl,trivial,trivial⟩,⟨rfl,trivial,trivial⟩,⟨rfl,trivial,trivial⟩,⟨rfl,trivial,trivial⟩,trivial⟩) t) u
def SO{q k L G C}(b:ar 3 q.nw (av q.C)=true)(d:ar 1 q.ng (aN q.G)=true)(e:fx q=true)(f:k<=1000)(g:gN G k):
  af PP II 106 [.agg (aZ q),.ae k 3 (bw L G C),.fn 111 [] [],.fn 105 [] [],.fn 112 [] [],.fn 113 [] []] HR (.ret (.agg [.str (jy q k G C).1,.str (jy q k G C).2]) HR):=by
 unfold jy;have a:=K4;cases n:(c_ k).any C with
 |true=>
  have n0:=Gc n;have v:=oX C k;have l:=ia (p:=C) g;have h:=ia (p:=λi=>!C i) g;have lp:=Gf q k L G C f;have lp2:=Gg q (aW C k) (aW (λi=>!C i) k) (ct C G k) (cV (aW (λi=>!C i) k) (ct (λi=>!C i) G k)) n0 b d e O l (ma h);refine wH (ks:=[gP,cG,cC,bR,jU,gL]) (T:=[(3001,16,sB 111 112 113 q k L G C (λi=>aW C i.toNat) (λi=>aW (λi=>!C i) i.toNat) (ct C G k) (ct (λi=>!C i) G k) 0,sC 111 112 113 q (aW C k) (aW (λi=>!C i) k) (ct C G k) (ct (λi=>!C i) G k)),(12001,19,lU 111 112 113 q (aW C k) (aW (λi=>!C i) k) (ct C G k) (cV (aW (λi=>!C i) k) (ct (λi=>!C i) G k)) (λi=>(aT (λc=>M (c>0)) (bZ q (aW C k) (ct C G k) (cV (aW (λi=>!C i) k) (ct (λi=>!C i) G k))) i.toNat).1) (λi=>(aT (λc=>M (c>0)) (bZ q (aW C k) (ct C G k) (cV (aW (λi=>!C i) k) (ct (λi=>!C i) G k))) i.toNat).2) 0,lV 111 112 113 q (aT (λc=>M (c>0)) (bZ q (aW C k) (ct C G k) (cV (aW (λi=>!C i) k) (ct (λi=>!C i) G k))) (aW (λi=>!C i) k)).1 (aT (λc=>M (c>0)) (bZ q (aW C k) (ct C G k) (cV (aW (λi=>!C i) k) (ct (λi=>!C i) G k))) (aW (λi=>!C i) k)).2)]) ?_;rw[SL];have a1:(bN (aW (λi=>!C i) k) (ah (ct (λi=>!C i) G k))&&n_ (aW (λi=>!C i) k) (aW (λi=>!C i) k)&&b_ (aW (λi=>!C i) k) 4611686018427387904&&true&&true)=true:=by rw[dL,qy,gj O];rfl
  have a2:(((c_ (aW C k)).all λi=>bj.free (ah (ct C G k) i))&&M (aW C k<=aW C k))=true:=by rw[sT,bK (dP _)];rfl
  have o:=dN O l;have z1:aW C (0:Int).toNat=0:=rfl;have z2:aW (λi=>!C i) (0:Int).toNat=0:=rfl;have j:aT (λc=>M (c>0)) (bZ q (aW C k) (ct C G k) (cV (aW (λi=>!C i) k) (ct (λi=>!C i) G k))) (0:Int).toNat=(fY q (aW C k) (ct C G k),fZ q (aW C k) (ct C G k)):=rfl;rw[kP,kP,kV b d,uM,e,rc,re];simp only[j];generalize aT (λc=>M (c>0)) (bZ q (aW C k) (ct C G k) (cV (aW (λi=>!C i) k) (ct (λi=>!C i) G k)))=Z at*;generalize aW (λi=>!C i) k=r at*;generalize aW C k=m at*;have a4:(true&&true&&bN m (ah (ct C G k))&&cJ m (ct C G k))=true:=by rw[dL,o];rfl
  have hQ:=a (Z r);exact zZ
 |false=>
  have s:∀i,i<k->C i=false:=by simp_all
  have h:=ma g;have lp:=DX q k L G f;have lp2:=DY q k (cV k G) b d e f h;have key:af PP II 106 [.agg (aZ q),.ae k 3 (bw L G λ_=>false),.fn 111 [] [],.fn 105 [] [],.fn 112 [] [],.fn 113 [] []] HR (.ret (.agg [.str (aT (λc=>M (c>0)) (bC q (cV k G)) k).1,.str (aT (λc=>M (c>0)) (bC q (cV k G)) k).2]) HR):=by
   refine wH (ks:=[gP,cG,cC,bR,jU,gL]) (T:=[(3001,16,lS 111 112 113 q k L G 0,lT 111 112 113 q k G),(12001,18,lW 111 112 113 q k (cV k G) (λi=>(aT (λc=>M (c>0)) (bC q (cV k G)) i.toNat).1) (λi=>(aT (λc=>M (c>0)) (bC q (cV k G)) i.toNat).2) 0,lX 111 112 113 q (aT (λc=>M (c>0)) (bC q (cV k G)) k).1 (aT (λc=>M (c>0)) (bC q (cV k G)) k).2)]) ?_;rw[NW];have a1:(bN k (ah G)&&n_ k k&&b_ k 4611686018427387904&&true&&true)=true:=by rw[dL,qy,gj O];rfl
   have j:aT (λc=>M (c>0)) (bC q (cV k G)) (0:Int).toNat=(fY q 0 (λ_=>0),fZ q 0 (λ_=>0)):=rfl;rw[kP,kV b d,uM,e,rc,re];simp only[j];generalize aT (λc=>M (c>0)) (bC q (cV k G))=Z at*;have hQ:=a (Z k);exact ZA
  intro c ρ w vs hG t u;refine key c ρ w vs hG (aV.yA (show bj.le _ [.agg (aZ q),.ae k 3 (bw L G C),.fn 111 [] [],.fn 105 [] [],.fn 112 [] [],.fn 113 [] []] [.agg (aZ q),.ae k 3 (bw L G λ_=>false),.fn 111 [] [],.fn 105 [] [],.fn 112 [] [],.fn 113 [] []]from⟨⟨⟨rfl,rfl,λi hi=>ku _ _ _⟩,⟨rfl,rfl,λi hi=>pZ _ _ _⟩,⟨rfl,rfl⟩,⟨rfl,rfl⟩,rfl,rfl,⟨rfl,rfl⟩,trivial⟩,⟨rfl,rfl,λi hi=>⟨⟨rfl,rfl⟩,⟨rfl,rfl⟩,s i hi,trivial⟩⟩,⟨rfl,trivial,trivial⟩,⟨rfl,trivial,trivial⟩,⟨rfl,trivial,trivial⟩,⟨rfl,trivial,trivial⟩,trivial⟩) t) u
end
section
open Go.Sort Go.Shelf Go.Proofs
def oY(k:Nat)(r:Nat->List AV):Bool:=(c_ k).all λi=>match r i with|[.int d_ _,.int d_ _,.bool _]=>true|_=>false
def nr(r:Nat->List AV)(i:Nat):Int:=match r i with|[.int d_ a,_,_]=>a|_=>0
def ns(r:Nat->List AV)(i:Nat):Int:=match r i with|[_,.int d_ a,_]=>a|_=>0
def ny(r:Nat->List AV)(i:Nat):Bool:=match r i with|[_,_,.bool a]=>a|_=>false
def rf{k r}(h:oY k r=true):B_ (λl=>l) (.ae k 3 r) (.ae k 3 (bw (nr r) (ns r) (ny r))):=⟨rfl,rfl,λi hi=>by
 have:=List.all_eq_true.1 h i (List.mem_range.2 hi);unfold bw nr ns ny;split at this
 ·rename_i a b c d;rw[d];exact⟨⟨rfl,rfl⟩,⟨rfl,rfl⟩,rfl,trivial⟩
 ·cases this⟩
def Ci{k W}(h:cJ k W=true):gN W k:=(eH h).2
def af.K5{P I f x y i j a b c d H o}(h:af P I f [i,j,a,b,c,d] H o)(k1:B_ (λl=>l) x i)(k2:B_ (λl=>l) y j)(m:bj.le (λl=>l) [a,b,c,d] [a,b,c,d]):af P I f [x,y,a,b,c,d] H o :=
 λq ρ w vs hG s t=>h q ρ w vs hG (aV.yA (show bj.le _ (x::y::[a,b,c,d]) (i::j::[a,b,c,d])from⟨k1,k2,m⟩) s) t
def W7:ax PP II:=ax.I8 106
 (λX args d=>match args with
  |[.agg cs,.ae k 3 r,.fn v [] [],.fn 105 [] [],.fn b [] [],.fn o [] []]=>match toQ cs with
   |some q=>X.ag (jw cs&&fx q&&oY k r&&cJ k (nr r)&&cJ k (ns r)) (match v,b,o with
    |107,108,110=>d (.agg [.str (jx q k (nr r) (ny r)).1,.str (jx q k (nr r) (ny r)).2])
    |111,112,113=>d (.agg [.str (jy q k (ns r) (ny r)).1,.str (jy q k (ns r) (ny r)).2])
    |_,_,_=>X.fail)
   |none=>X.fail
  |_=>X.fail)
 λX sem hX args d h=>by
  split at h
  ·split at h
   ·rename_i q a;obtain⟨e,c⟩:=hX.ag _ _ h;simp only[ba]at e;obtain⟨⟨⟨⟨a1,a2⟩,f⟩,a4⟩,g⟩:=e;obtain⟨r1,i⟩:=F4 a a1;have j:∀σ (l:List AV),bj.bx σ l=l->bj.bx σ (.agg _::l)= .agg _::l:=λσ l hl=>by
     show AV.bx σ (.agg _)::bj.bx σ l=_;rw[uJ a,hl]
    split at c
    ·exact⟨_,c,λ_=>rfl,λσ=>j σ _ A,(SN (G:=ns _) r1 i a2 (eH a4).1 (Ci a4)).K5 (toQ_le a a1) (rf f) ⟨⟨rfl,trivial,trivial⟩,⟨rfl,trivial,trivial⟩,⟨rfl,trivial,trivial⟩,⟨rfl,trivial,trivial⟩,trivial⟩⟩
    ·exact⟨_,c,λ_=>rfl,λσ=>j σ _ A,(SO (L:=nr _) r1 i a2 (eH g).1 (Ci g)).K5 (toQ_le a a1) (rf f) ⟨⟨rfl,trivial,trivial⟩,⟨rfl,trivial,trivial⟩,⟨rfl,trivial,trivial⟩,⟨rfl,trivial,trivial⟩,trivial⟩⟩
    ·exact absurd c hX.fail
   ·exact zR
  ·exact zR
def NZ(q)(k)(L G)(C)(Q){b}(e:b=(jy {nw:=q.nw,C:=λj k=>cT (av q.C j) k,ng:=q.ng,G:=λj=>q.G j,a:=q.a,fl:=q.fl,nu:=q.nu,de:=q.de,top:=q.top} k (ns (bw L G C)) (ny (bw L G C)))){c}(f:c=(jw [i_ q.nw 3 (av q.C),i_ q.ng 1 (aN q.G),f_ d_ q.a,f_ d_ q.fl,e_ q.nu,e_ q.de,f_ d_ q.top]&&fx {nw:=q.nw,C:=λj k=>cT (av q.C j) k,ng:=q.ng,G:=λj=>q.G j,a:=q.a,fl:=q.fl,nu:=q.nu,de:=q.de,top:=q.top}&&oY k (bw L G C)&&cJ k (nr (bw L G C))&&cJ k (ns (bw L G C)))){d}(g:d=(jx {nw:=q.nw,C:=λj k=>cT (av q.C j) k,ng:=q.ng,G:=λj=>q.G j,a:=q.a,fl:=q.fl,nu:=q.nu,de:=q.de,top:=q.top} k (nr (bw L G C)) (ny (bw L G C)))):(kq [W7] [] 64 [.agg (aZ q),.ae k 3 (bw L G C)] Q)=(B c (B c (B (M (p_ b=p_ b)&&(M (q_ b=q_ b)&&true)) (Q (AV.bM [t_ [e_ (p_ d),e_ (q_ d)],t_ [e_ (p_ b),e_ (q_ b)]]))))):=by subst_vars;kernel_rfl
def Gh(q)(b)(V a):bZ (qX q) b V a=bZ q b V a:=by
 rfl
def Cj(q)(a):bC (qX q) a=bC q a:=by
 rfl
def VW(q)(k)(W)(C):jx ⟨q.nw,λj k=>cT (av q.C j) k,q.ng,λj=>q.G j,q.a,q.fl,q.nu,q.de,q.top⟩ k W C=jx q k W C:=by
 rfl
def VX(q)(k)(W)(C):jy ⟨q.nw,λj k=>cT (av q.C j) k,q.ng,λj=>q.G j,q.a,q.fl,q.nu,q.de,q.top⟩ k W C=jy q k W C:=by
 rfl
def uN(k)(L G)(C):oY k (bw L G C)=true:=List.all_eq_true.2 λ_ _=>rfl
def Ad(L G)(C):nr (bw L G C)=L/\ns (bw L G C)=G/\ny (bw L G C)=C:=⟨rfl,rfl,rfl⟩
def Gi(q:Query)(k:Nat)(L G:Nat->Int)(C:Nat->Bool):AV:=.bM [.agg [.str (jx q k L C).1,.str (jx q k L C).2],.agg [.str (jy q k G C).1,.str (jy q k G C).2]]
def N1{q k L G C}(c:ar 3 q.nw (av q.C)=true)(d:ar 1 q.ng (aN q.G)=true)(e:fx q=true)(f:cJ k L=true)(hG:cJ k G=true):
  af PP II 64 [.agg (aZ q),.ae k 3 (bw L G C)] HR (.ret (Gi q k L G C) HR):=by
 refine wH (ks:=[W7]) (T:=[]) ?_;rw[NZ _ _ _ _ _ _ A A A,kV c d,uM,e,uN,(Ad L G C).1,(Ad L G C).2.1,(Ad L G C).2.2,f,hG];refine ZE _ _ A (ZE _ _ A (ZE _ _ zA λσ=>?_));have a:=VW q k L C;have b:=VX q k G C;exact⟨⟨congrArg p_ a,congrArg q_ a,trivial⟩,⟨congrArg p_ b,congrArg q_ b,trivial⟩,trivial⟩
end
section
open Go.Sort Go.Shelf Go.Proofs
def br(n:Nat)(K:Nat->Nat->Int)(S:Nat->Nat->List UInt8)(i:Nat):List AV:=[.ae n 1 (ah (K i)),.str (S i 0),.str (S i 1),.str (S i 2),.str (S i 3),.str [48],.str [49],.str [48],.str [49]]
def h65(q:Query)(n:Nat)(K:Nat->Nat->Int)(S:Nat->Nat->List UInt8)(no top:Nat)(a:List (Nat×aae)):AH:={n:=top,t:=m_ ([(6,.cells dS (.ex 20)),(12,.cells (aZ q) (.ty 34)),(13,.rows no 9 (br n K S) (.ty 79))]++a)}
def t65(m n:Nat)(K:Nat->Nat->Int)(S:Nat->Nat->List UInt8)(no:Nat)(i:Int)(a:List (Nat×AV)):Tr AV:=m_ ([(1,.ae m 9 (br n K S)),(2,.ptr 12 0 0 0),(5,.own 13 no 9),(15,.ae m 9 (br n K S)),(16,.int d_ (z m)),(17,.int d_ i)]++a)
def W9(q:Query)(m n:Nat)(K a:Nat->Nat->Int)(S b:Nat->Nat->List UInt8)(N:Int->Nat)(i:Int):St:={t:=t65 m n K S (N i) i [],nt:=46,H:=h65 q n a b (N i) 14 [],df:=[]}
def Xa(q:Query)(n:Nat)(a:Nat->Nat->Int)(b:Nat->Nat->List UInt8)(no:Nat):GE:=.one (.x 0 {t:=m_ [(5,.own 13 no 9)],nt:=46,H:=h65 q n a b no 14 [],df:=[]})
def Ae(q:Query)(m n:Nat)(K a:Nat->Nat->Int)(S b:Nat->Nat->List UInt8)(no:Nat)(i:Int)(r:Nat)(c:Int->Int)(j:Int):St:={t:=t65 m n K S no i [(7,.ptr 14 0 0 0),(8,.int d_ (c j)),(21,.ae m 9 (br n K S)),(22,.int d_ (z m)),(23,.int d_ j)],nt:=46,H:=h65 q n a b no 15 [(14,.cells (br n K S r) (.ty 79))],df:=[]}
def Af(q:Query)(m n:Nat)(K a:Nat->Nat->Int)(S b:Nat->Nat->List UInt8)(no:Nat)(i:Int)(r:Nat)(c:Int):GE:=.one (.x 2 {t:=t65 m n K S no i [(7,.ptr 14 0 0 0),(8,.int d_ c)],nt:=46,H:=h65 q n a b no 15 [(14,.cells (br n K S r) (.ty 79))],df:=[]})
def Ag(q)(m n)(K b)(S d)(no)(i)(r)(c)(cE)(j)(Q):(kr [qp] [] 65 9001 15 (Ae q m n K b S d no i r c) (λ_=>Af q m n K b S d no i r cE) (λj=>j+1) Q j)=(ak (M (j<z m)) (B (M (0<=j)&&M (j<z m)) (B (bX (S j.toNat 0) (S j.toNat 1)&&bX (S r 2) (S r 3)) (ak (M (bO (aw (S j.toNat 0)) (aw (S j.toNat 1)) (aw (S r 2)) (aw (S r 3))>0)) (B (aJ d_ (c j+1)) (B (aJ d_ (j+1)) (zyN n (zyR n (ah (K r)) (zyB (S r 0) (zyB (S r 1) (zyB (S r 2) (zyB (S r 3) (zyB [48] (zyB [49] (zyB [48] (zyB [49] (zyN no (zyR no (br n b d) (zyN q.nw (zyR q.nw (av q.C) (zyN q.ng (zyR q.ng (aN q.G) (zyI q.a (zyI q.fl (zyB q.nu (zyB q.de (zyI q.top (zyN m (zyR m (br n K S) (zyI (j+1) (zyN m (zyR m (br n K S) (zyI i (zyN no (zyN m (zyR m (br n K S) (zyI (z m) (aS (c j+1) (c (j+1)) (zyI (z m) Q))))))))))))))))))))))))))))))))))) (B (aJ d_ (j+1)) (zyN n (zyR n (ah (K r)) (zyB (S r 0) (zyB (S r 1) (zyB (S r 2) (zyB (S r 3) (zyB [48] (zyB [49] (zyB [48] (zyB [49] (zyN no (zyR no (br n b d) (zyN q.nw (zyR q.nw (av q.C) (zyN q.ng (zyR q.ng (aN q.G) (zyI q.a (zyI q.fl (zyB q.nu (zyB q.de (zyI q.top (zyN m (zyR m (br n K S) (zyI (j+1) (zyN m (zyR m (br n K S) (zyI i (zyN no (zyN m (zyR m (br n K S) (zyI (z m) (aS (c j) (c (j+1)) (zyI (z m) Q))))))))))))))))))))))))))))))))))))) (zyN n (zyR n (ah (K r)) (zyB (S r 0) (zyB (S r 1) (zyB (S r 2) (zyB (S r 3) (zyB [48] (zyB [49] (zyB [48] (zyB [49] (zyN no (zyR no (br n b d) (zyN q.nw (zyR q.nw (av q.C) (zyN q.ng (zyR q.ng (aN q.G) (zyI q.a (zyI q.fl (zyB q.nu (zyB q.de (zyI q.top (zyN m (zyR m (br n K S) (zyN m (zyR m (br n K S) (zyI i (zyN no (zyI (z m) (aS (c j) cE True)))))))))))))))))))))))))))))):=U
def wP(q)(m n)(K b)(S d)(N)(no)(c)(cE)(i)(Q):(kr [qp] [(9001,15,Ae q m n K b S d (N i) i i.toNat c 0,Af q m n K b S d (N i) i i.toNat cE)] 65 5001 13 (W9 q m n K b S d N) (λ_=>Xa q n b d no) (λj=>j+1) Q i)=(ak (M (i<z m)) (B (M (0<=i)&&M (i<z m)) (ay PP II false (az II 65 9001) 15 (Ae q m n K b S d (N i) i i.toNat c 0) (Af q m n K b S d (N i) i i.toNat cE)/\zyN n (zyR n (ah (K i.toNat)) (zyB (S i.toNat 0) (zyB (S i.toNat 1) (zyB (S i.toNat 2) (zyB (S i.toNat 3) (zyB [48] (zyB [49] (zyB [48] (zyB [49] (zyN (N i) (zyR (N i) (br n b d) (zyN q.nw (zyR q.nw (av q.C) (zyN q.ng (zyR q.ng (aN q.G) (zyI q.a (zyI q.fl (zyB q.nu (zyB q.de (zyI q.top (zyN m (zyR m (br n K S) (zyN m (zyR m (br n K S) (zyI i (zyN (N i) (zyN m (zyR m (br n K S) (zyI (z m) (aS 0 (c 0) (zyI (z m) (ak (M (cE<q.top)) (B (M (N i<=N i)&&true&&true&&M ((N i+1)*152<=140737488355328)&&true) (B (aJ d_ (i+1)) (bh (N i+1) (N (i+1)) (an (N i+1) (λe=>bif b_ e (N i)then br n b d e else k_ 9 (l_ (0+(e-N i)*9) [i_ n 1 (ah (K i.toNat)),e_ (S i.toNat 0),e_ (S i.toNat 1),e_ (S i.toNat 2),e_ (S i.toNat 3),e_ [48],e_ [49],e_ [48],e_ [49]])) (br n b d)/\zyN q.nw (zyR q.nw (av q.C) (zyN q.ng (zyR q.ng (aN q.G) (zyI q.a (zyI q.fl (zyB q.nu (zyB q.de (zyI q.top (zyN m (zyR m (br n K S) (zyN m (zyR m (br n K S) (zyI (i+1) (bh (N i+1) (N (i+1)) (zyI (z m) Q))))))))))))))))))) (B (aJ d_ (i+1)) (bh (N i) (N (i+1)) (zyR (N i) (br n b d) (zyN q.nw (zyR q.nw (av q.C) (zyN q.ng (zyR q.ng (aN q.G) (zyI q.a (zyI q.fl (zyB q.nu (zyB q.de (zyI q.top (zyN m (zyR m (br n K S) (zyN m (zyR m (br n K S) (zyI (i+1) (bh (N i) (N (i+1)) (zyI (z m) Q))))))))))))))))))))))))))))))))))))))))))))))))))))) (bh (N i) no (zyR (N i) (br n b d) (zyN q.nw (zyR q.nw (av q.C) (zyN q.ng (zyR q.ng (aN q.G) (zyI q.a (zyI q.fl (zyB q.nu (zyB q.de (zyI q.top (bh (N i) no True))))))))))))):=U
def Y2(q)(m n)(K b)(S c)(N)(no)(Q):(kp [qp] [(5001,13,W9 q m n K b S c N 0,Xa q n b c no)] 65 [.agg (aZ q),.ae m 9 (br n K S)] Q)=(ak (M (q.top=0)) (Q (i_ m 9 (br n K S))) (ay PP II false (az II 65 5001) 13 (W9 q m n K b S c N 0) (Xa q n b c no)/\bh (N 0) 0 (zyN q.nw (zyR q.nw (av q.C) (zyN q.ng (zyR q.ng (aN q.G) (zyI q.a (zyI q.fl (zyB q.nu (zyB q.de (zyI q.top (zyN m (zyR m (br n K S) (zyN m (zyR m (br n K S) (bh (N 0) 0 (zyI (z m) (B ((g_ (c_ no) λi=>bj.free (br n b c i))&&M (no<=no)) (Q (i_ no 9 (br n b c))))))))))))))))))))):=U
def ZG(m n:Nat)(K:Nat->Nat->Int)(S:Nat->Nat->List UInt8)(i:Int):St:={t:=m_ [(1,.ae m 9 (br n K S)),(2,.fn 60 [] []),(15,.ae m 9 (br n K S)),(16,.int d_ (z m)),(17,.int d_ i)],nt:=32,H:=v_ 12,df:=[]}
def ZH:GE:=.one (.x 0 {t:=.e,nt:=32,H:=v_ 12,df:=[]})
def ZI(n:Nat)(W:Nat->Int)(i:Int):St:={t:=m_ [(0,.ae n 1 (ah W)),(1,.ae n 1 (ah W)),(11,.ae n 1 (ah W)),(12,.int d_ (z n)),(13,.int d_ i)],nt:=26,H:=v_ 12,df:=[]}
def ZJ:GE:=.one (.x 0 {t:=.e,nt:=26,H:=v_ 12,df:=[]})
def SP(n)(W)(i)(Q):(kr [] [] 61 4001 12 (ZI n W) (λ_=>ZJ) (λj=>j+1) Q i)=(ak (M (i<z n)) (B (M (0<=i)&&M (i<z n)) (B (M (0<=i)&&M (i<z n)) (ak (!decide (W i.toNat=W i.toNat)) False (B (aJ d_ (i+1)) (zyN n (zyR n (ah W) (zyN n (zyR n (ah W) (zyI (i+1) (zyN n (zyR n (ah W) (zyI (z n) Q)))))))))))) True):=U
def Y3(n)(W)(Q):(kb [] [(4001,12,ZI n W 0,ZJ)] 61 [.ae n 1 (ah W),.ae n 1 (ah W)] Q)=(ak (!decide (z n=z n)) (Q (C_ false)) (ay PP II false (az II 61 4001) 12 (ZI n W 0) ZJ/\zyN n (zyR n (ah W) (zyN n (zyR n (ah W) (zyN n (zyR n (ah W) (zyI (z n) (Q (C_ true)))))))))):=U
end
end
end Go.Sx
