/- The proof of a statement of the seat, part 31. -/
import Derived.Test.YtoijalagmmgkbaaGreatDoorX30
set_option linter.all false
set_option linter.defProp false
set_option maxRecDepth 1000000
namespace Go.Sx
open Go
open Decidable renaming decide->B
open Int renaming ofNat->z,toNat->a_
open Nat renaming blt->b_,zero_le->h_,beq->m_,ble->s_
open List renaming range->c_,all->g_,take->k_,drop->l_,filter_append->n_,getD_eq_getElem?_getD->r_,length_append->u_,all_eq_true->v_,getElem_mem->w_,range_succ->x_
open Go.IntKind renaming i64->d_
open AV renaming str->e_,int->f_,az->i_,agg->t_,le->A_
open AH renaming get_set_same->j_,eu->z_
open Prod renaming fst->o_,snd->p_
open Tr renaming ofList->q_
noncomputable section
section
open Go.Sort Go.Shelf Go.Proofs
def Rel.Nv{c ρ H w l f g a}(h:Rel c ρ H w)(hl:H.get l= .rows 0 1 f a):Rel c ρ (H.set l (.rows 0 1 g a)) w:=by
 have g:∀j,j≠l->(H.set l (.rows 0 1 g a)).get j=H.get j:=λj e=>z_ _ _ (λd=>e d.symm)
 refine h.alike A (λj b=>?_) (λj=>?_) (λj=>?_)
 ·by_cases e:j=l
  ·subst e
   rw[j_]
   rw[hl]at b
   exact⟨O,b.2⟩
  grind
 ·by_cases e:j=l
  ·subst e;rw[j_,hl];rfl
  ·rw[g j e]
 ·by_cases e:j=l
  ·subst e;rw[j_,hl];simp
  ·rw[g j e]
def cw:aC PP II where
 f:=150
 spec X args H p _:=match args with
  |[.own l n 1,.fn g [] []]=>match H.get l with
   | .rows m 1 f (.ty 3)=>X.ak (bA n f&&m_ n m&&b_ n 4611686018427387904&&s_ 12 l&&b_ l H.n) (match g with
    |99=>p (.bK []) (H.set l (.rows n 1 (ae (bQ n (aM f))) (.ty 3)))
    |102=>p (.bK []) (H.set l (.rows n 1 (ae (cK n (aM f))) (.ty 3)))
    |_=>X.fail)
   |_=>X.fail
  |_=>X.fail
 ok X sem hX args H p kp h:=by
  split at h
  ·rename_i l n g
   split at h
   ·rename_i m f hl
    obtain⟨u,j⟩:=hX.ak _ _ h
    simp only[bf,Nat.blt_eq]at u
    obtain⟨⟨⟨⟨a1,a2⟩,a4⟩,C⟩,x⟩:=u
    cases dE a2
    have key:∀b:Nat->Int,(0<n->af PP II 150 [.own 12 n 1,.fn g [] []] (lz n (aM f)) (.ret (.bK []) (lz n b)))->af PP II 150 [.own l n 1,.fn g [] []] H (.ret (.bK []) (H.set l (.rows n 1 (ae b) (.ty 3)))):=λb y=>by
     by_cases d:n=0
     ·subst d
      intro c ρ w vs hG q r
      exact AK c ρ w vs hG q (r.Nv hl)
     ·have:=Qn (y O) hl a1 ZD x
      intro c ρ w vs hG q r
      have e:∀(o:CO),o= .ret (.bK []) ((H.set l (.rows n 1 (ae (aM f)) (.ty 3))).set l (.rows n 1 (ae b) (.ty 3)))->∀e w',o.post c ρ e w'->(CO.ret (.bK []) (H.set l (.rows n 1 (ae b) (.ty 3)))).post c ρ e w':=by
       rintro _ rfl e w' hp
       cases e with
       |returned v=>
        obtain⟨ρ',hx,s,t⟩:=hp
        refine⟨ρ',hx,s.congr A λi=>?_,t⟩
        by_cases k:i=l
        ·subst k;rw[j_,j_]
        ·rw[z_ _ _ (λa=>k a.symm),z_ _ _ (λa=>k a.symm),z_ _ _ (λa=>k a.symm)]
       |panicked D=>exact hp.elim
       |outgrown=>exact hp.elim
      rcases this c ρ w vs hG q r with⟨k1,k2⟩|⟨v,w',k1,k2⟩
      ·exact .inl ⟨k1,k2.mono (e _ A)⟩
      grind
    split at j
    ·exact⟨.ret _ _,j,key _ λd=>I9 d a4⟩
    ·exact⟨.ret _ _,j,key _ λd=>Ja d a4⟩
    ·exact absurd j hX.fail
   ·exact zR
  ·exact zR
def bi(L G:Nat->Int)(C:Nat->Bool)(i:Nat):List AV:=[.int d_ (L i),.int d_ (G i),.bool (C i)]
end
section
open Go.Sort Go.Shelf Go.Proofs
def hQ(n:Nat)(a:List (Nat×Zv)):AH:={n:=n,t:=q_ ([(0,.cells [.az 5 2 aA] .ro),(1,.cells [.str [48],.str [49]] .ro),(3,.cells [.map (some 13)] .ro),(6,.cells dz (.ex 20)),(13,.map lS)]++a)}
def hB(q:Query)(n:Nat)(a:List (Nat×Zv)):AH:=hQ n ([(14,.cells (aY q) (.ty 32)),(15,.cells [.str [],.str []] (.ty 30))]++a)
def ub(a b c:Nat)(d:List (Nat×AV)):Tr AV:=q_ ([(2,.fn a [] []),(3,.fn 95 [] []),(4,.fn b [] []),(5,.fn c [] []),(6,.ptr 14 0 0 0),(12,.ptr 15 0 0 0)]++d)
def pQ(c d e:Nat)(q:Query)(k:Nat)(L G:Nat->Int)(C:Nat->Bool)(a b:Int->Nat)(V M:Nat->Int)(i:Int):St:={t:=ub c d e [(13,.own 16 (a i) 1),(14,.own 17 (b i) 1),(20,.az k 3 (bi L G C)),(21,.int d_ (z k)),(22,.int d_ i)],nt:=69,H:=hB q 18 [(16,.rows (a i) 1 (ae V) (.ty 3)),(17,.rows (b i) 1 (ae M) (.ty 3))],df:=[]}
def pR(c d e:Nat)(q:Query)(a b:Nat)(V M:Nat->Int):GE:=.one (.x 0 {t:=ub c d e [(13,.own 16 a 1),(14,.own 17 b 1)],nt:=69,H:=hB q 18 [(16,.rows a 1 (ae V) (.ty 3)),(17,.rows b 1 (ae M) (.ty 3))],df:=[]})
def kB(a b c:Nat)(q:Query)(k:Nat)(L G:Nat->Int)(i:Int):St:={t:=ub a b c [(13,.aw),(14,.own 16 i.toNat 1),(20,.az k 3 (bi L G λ_=>false)),(21,.int d_ (z k)),(22,.int d_ i)],nt:=69,H:=hB q 17 [(16,.rows i.toNat 1 (ae (match a with|97=>L|_=>G)) (.ty 3))],df:=[]}
def kC(a b c:Nat)(q:Query)(k:Nat)(M:Nat->Int):GE:=.one (.x 0 {t:=ub a b c [(13,.aw),(14,.own 16 k 1)],nt:=69,H:=hB q 17 [(16,.rows k 1 (ae M) (.ty 3))],df:=[]})
def kD(e f g:Nat)(q:Query)(d c:Nat)(V M:Nat->Int)(a b:Int->List UInt8)(i:Int):St:={t:=ub e f g [(13,.own 16 d 1),(14,.own 17 c 1),(17,.ptr 18 0 0 0),(49,.int d_ (z c)),(50,.int d_ i)],nt:=69,H:=hB q 19 [(16,.rows d 1 (ae V) .ro),(17,.rows c 1 (ae M) (.ty 3)),(18,.cells [.str (a i),.str (b i)] (.ty 30))],df:=[]}
def kE(c d e:Nat)(q:Query)(a b:List UInt8):GE:=.one (.x 2 {t:=ub c d e [(17,.ptr 18 0 0 0)],nt:=69,H:=hB q 19 [(18,.cells [.str a,.str b] (.ty 30))],df:=[]})
def kF(d e f:Nat)(q:Query)(c:Nat)(M:Nat->Int)(a b:Int->List UInt8)(i:Int):St:={t:=ub d e f [(13,.aw),(14,.own 16 c 1),(17,.ptr 17 0 0 0),(49,.int d_ (z c)),(50,.int d_ i)],nt:=69,H:=hB q 18 [(16,.rows c 1 (ae M) (.ty 3)),(17,.cells [.str (a i),.str (b i)] (.ty 30))],df:=[]}
def kG(c d e:Nat)(q:Query)(a b:List UInt8):GE:=.one (.x 2 {t:=ub c d e [(17,.ptr 17 0 0 0)],nt:=69,H:=hB q 18 [(17,.cells [.str a,.str b] (.ty 30))],df:=[]})
def wK(q)(k)(L G)(C)(b c)(V M)(e f)(i)(Q):(kr [fS,cw,cu,bR,mR,fO] [] 96 3001 16 (pQ 97 98 99 q k L G C b c V M) (λ_=>pR 97 98 99 q e f V M) (λi=>i+1) Q i)=(ah (B (i<z k)) (aa (B (0<=i)&&B (i<z k)) (ah (C i.toNat) (aa (B (b i<=b i)&&true&&true&&B ((b i+1)*8<=140737488355328)&&true) (aa (aN d_ (i+1)) (ax (c i) (c (i+1)) (zyR (c i) (ae M) (ax (b i+1) (b (i+1)) (an (b i+1) (λd=>bif b_ d (b i)then ae V d else k_ 1 (l_ (0+(d-b i)*1) [f_ d_ (L i.toNat)])) (ae V)/\zyB [] (zyB [] (zyN q.nw (zyR q.nw (au q.C) (zyN q.ng (zyR q.ng (aR q.G) (zyI q.a (zyI q.fl (zyB q.nu (zyB q.de (zyI q.top (zyB [48] (zyB [49] (zyR 5 aA (zyI (z k) (ax (b i+1) (b (i+1)) (zyN k (zyR k (bi L G C) (zyI (i+1) (ax (c i) (c (i+1)) Q))))))))))))))))))))))))) (aa (B (c i<=c i)&&true&&true&&B ((c i+1)*8<=140737488355328)&&true) (aa (aN d_ (i+1)) (ax (c i+1) (c (i+1)) (an (c i+1) (λd=>bif b_ d (c i)then ae M d else k_ 1 (l_ (0+(d-c i)*1) [f_ d_ (L i.toNat)])) (ae M)/\ax (b i) (b (i+1)) (zyR (b i) (ae V) (zyB [] (zyB [] (zyN q.nw (zyR q.nw (au q.C) (zyN q.ng (zyR q.ng (aR q.G) (zyI q.a (zyI q.fl (zyB q.nu (zyB q.de (zyI q.top (zyB [48] (zyB [49] (zyR 5 aA (zyI (z k) (ax (b i) (b (i+1)) (zyN k (zyR k (bi L G C) (zyI (i+1) (ax (c i+1) (c (i+1)) Q))))))))))))))))))))))))))) (ax (c i) f (zyR (c i) (ae M) (ax (b i) e (zyR (b i) (ae V) (zyB [] (zyB [] (zyN q.nw (zyR q.nw (au q.C) (zyN q.ng (zyR q.ng (aR q.G) (zyI q.a (zyI q.fl (zyB q.nu (zyB q.de (zyI q.top (zyB [48] (zyB [49] (zyR 5 aA (ax (b i) e (ax (c i) f True))))))))))))))))))))):=U
def uc(q)(k)(L G)(i)(Q):(kr [fS,cw,cu,bR,mR,fO] [] 96 3001 16 (kB 97 98 99 q k L G) (λ_=>kC 97 98 99 q k L) (λi=>i+1) Q i)=(ah (B (i<z k)) (aa (B (0<=i)&&B (i<z k)) (aa (B (i.toNat<=i.toNat)&&true&&true&&B ((i.toNat+1)*8<=140737488355328)&&true) (aa (aN d_ (i+1)) (ax (i.toNat+1) (a_ (i+1)) (an (i.toNat+1) (λb=>bif b_ b i.toNat then ae L b else k_ 1 (l_ (0+(b-i.toNat)*1) [f_ d_ (L i.toNat)])) (ae L)/\zyB [] (zyB [] (zyN q.nw (zyR q.nw (au q.C) (zyN q.ng (zyR q.ng (aR q.G) (zyI q.a (zyI q.fl (zyB q.nu (zyB q.de (zyI q.top (zyB [48] (zyB [49] (zyR 5 aA (zyI (z k) (zyN k (zyR k (bi L G λx=>false) (zyI (i+1) (ax (i.toNat+1) (a_ (i+1)) Q))))))))))))))))))))))) (ax i.toNat k (zyR i.toNat (ae L) (zyB [] (zyB [] (zyN q.nw (zyR q.nw (au q.C) (zyN q.ng (zyR q.ng (aR q.G) (zyI q.a (zyI q.fl (zyB q.nu (zyB q.de (zyI q.top (zyB [48] (zyB [49] (zyR 5 aA (ax i.toNat k True)))))))))))))))))):=U
def ud(q)(e f)(V M)(c d)(a b)(i)(Q){g}(m:g=(c8 {nw:=q.nw,C:=λj k=>bV (au q.C j) k,ng:=q.ng,G:=λj=>q.G j,a:=q.a,fl:=q.fl,nu:=q.nu,de:=q.de,top:=q.top} (e+a_ (i+1)) (aM λi=>bif b_ i e then ae (aM (ae V)) i else ae M (i-e)))){h}(n:h=(da {nw:=q.nw,C:=λj k=>bV (au q.C j) k,ng:=q.ng,G:=λj=>q.G j,a:=q.a,fl:=q.fl,nu:=q.nu,de:=q.de,top:=q.top} (e+a_ (i+1)) (aM λi=>bif b_ i e then ae (aM (ae V)) i else ae M (i-e)))){l}(o:l=((B (q.nw=q.nw)&&true&&g_ (c_ q.nw) λi=>B (q.C i 0=q.C i 0)&&(B (q.C i 1=q.C i 1)&&(B (q.C i 2=q.C i 2)&&true)))&&((B (q.ng=q.ng)&&true&&g_ (c_ q.ng) λi=>B (q.G i=q.G i)&&true)&&(B (q.a=q.a)&&(B (q.fl=q.fl)&&(B (q.nu=q.nu)&&(B (q.de=q.de)&&(B (q.top=q.top)&&true)))))))):(kr [fS,cw,cu,bR,mR,fO] [] 96 12001 19 (kD 97 98 99 q e f V M c d) (λ_=>kE 97 98 99 q a b) (λi=>i+1) Q i)=(ah (B (i<z f)) (aa (b_ 0 e&&s_ e e&&bA e (ae V)&&s_ e 1000000000000&&true&&true) (aa l (aa (aN d_ (i+1)) (aa (B (0<=i+1)&&B (i+1<=z f)) (aa (B (0<=i+1)&&B (i+1<=z f)) (aa (B (a_ (i+1)=a_ (i+1))&&true) (aa (B (e<=e)&&B (a_ (i+1)<=f)&&true&&B ((e+a_ (i+1))*8<=140737488355328)&&true) (aa l (aa ((g_ (c_ (e+a_ (i+1))) λi=>bt.free (bif b_ i e then ae (aM (ae V)) i else ae M (i-e)))&&B (e+a_ (i+1)<=e+a_ (i+1))) (aa ((gn [i_ q.nw 3 (au q.C),i_ q.ng 1 (aR q.G),f_ d_ q.a,f_ d_ q.fl,e_ q.nu,e_ q.de,f_ d_ q.top]&&eU {nw:=q.nw,C:=λj k=>bV (au q.C j) k,ng:=q.ng,G:=λj=>q.G j,a:=q.a,fl:=q.fl,nu:=q.nu,de:=q.de,top:=q.top}&&bA (e+a_ (i+1)) λi=>bif b_ i e then ae (aM (ae V)) i else ae M (i-e))&&bX (e+a_ (i+1)) (aM λi=>bif b_ i e then ae (aM (ae V)) i else ae M (i-e))) (aa (bJ g h&&bJ (c i) (d i)) (ah (B (bw (Zt g) (Zt h) (Zt (c i)) (Zt (d i))<0)) (aa (aN d_ (i+1)) (bI g (c (i+1)) (bI h (d (i+1)) (zyN f (zyR f (ae M) (zyN e (an e (ae (aM (ae V))) (ae V)/\zyB [] (zyB [] (zyN q.nw (zyR q.nw (au q.C) (zyN q.ng (zyR q.ng (aR q.G) (zyI q.a (zyI q.fl (zyB q.nu (zyB q.de (zyI q.top (zyB [48] (zyB [49] (zyR 5 aA (zyI (z f) (zyN e (zyI (i+1) (zyN f Q)))))))))))))))))))))))) (aa (aN d_ (i+1)) (bI (c i) (c (i+1)) (bI (d i) (d (i+1)) (zyN f (zyR f (ae M) (zyN e (an e (ae (aM (ae V))) (ae V)/\zyB [] (zyB [] (zyN q.nw (zyR q.nw (au q.C) (zyN q.ng (zyR q.ng (aR q.G) (zyI q.a (zyI q.fl (zyB q.nu (zyB q.de (zyI q.top (zyB [48] (zyB [49] (zyR 5 aA (zyI (z f) (zyN e (zyI (i+1) (zyN f Q)))))))))))))))))))))))))))))))))))) (bI (c i) a (bI (d i) b (zyB [] (zyB [] (zyN q.nw (zyR q.nw (au q.C) (zyN q.ng (zyR q.ng (aR q.G) (zyI q.a (zyI q.fl (zyB q.nu (zyB q.de (zyI q.top (zyB [48] (zyB [49] (zyR 5 aA True))))))))))))))))):=by subst_vars;kernel_rfl
def rO(q)(e)(M)(c d)(a b)(i)(Q){f}(l:f=(c8 {nw:=q.nw,C:=λj k=>bV (au q.C j) k,ng:=q.ng,G:=λj=>q.G j,a:=q.a,fl:=q.fl,nu:=q.nu,de:=q.de,top:=q.top} (a_ (i+1)) (aM λi=>bif b_ i 0 then []else ae M (i-0)))){g}(m:g=(da {nw:=q.nw,C:=λj k=>bV (au q.C j) k,ng:=q.ng,G:=λj=>q.G j,a:=q.a,fl:=q.fl,nu:=q.nu,de:=q.de,top:=q.top} (a_ (i+1)) (aM λi=>bif b_ i 0 then []else ae M (i-0)))){h}(n:h=((B (q.nw=q.nw)&&true&&g_ (c_ q.nw) λi=>B (q.C i 0=q.C i 0)&&(B (q.C i 1=q.C i 1)&&(B (q.C i 2=q.C i 2)&&true)))&&((B (q.ng=q.ng)&&true&&g_ (c_ q.ng) λi=>B (q.G i=q.G i)&&true)&&(B (q.a=q.a)&&(B (q.fl=q.fl)&&(B (q.nu=q.nu)&&(B (q.de=q.de)&&(B (q.top=q.top)&&true)))))))):(kr [fS,cw,cu,bR,mR,fO] [] 96 12001 18 (kF 97 98 99 q e M c d) (λ_=>kG 97 98 99 q a b) (λi=>i+1) Q i)=(ah (B (i<z e)) (aa h (aa (aN d_ (i+1)) (aa (B (0<=i+1)&&B (i+1<=z e)) (aa (B (0<=i+1)&&B (i+1<=z e)) (aa (B (a_ (i+1)=a_ (i+1))&&true) (aa (B (a_ (i+1)<=e)&&true&&B ((0+a_ (i+1))*8<=140737488355328)&&true) (aa h (aa ((g_ (c_ (0+a_ (i+1))) λi=>bt.free (bif b_ i 0 then []else ae M (i-0)))&&B (a_ (i+1)<=0+a_ (i+1))) (aa ((gn [i_ q.nw 3 (au q.C),i_ q.ng 1 (aR q.G),f_ d_ q.a,f_ d_ q.fl,e_ q.nu,e_ q.de,f_ d_ q.top]&&eU {nw:=q.nw,C:=λj k=>bV (au q.C j) k,ng:=q.ng,G:=λj=>q.G j,a:=q.a,fl:=q.fl,nu:=q.nu,de:=q.de,top:=q.top}&&bA (a_ (i+1)) λi=>bif b_ i 0 then []else ae M (i-0))&&bX (a_ (i+1)) (aM λi=>bif b_ i 0 then []else ae M (i-0))) (aa (bJ f g&&bJ (c i) (d i)) (ah (B (bw (Zt f) (Zt g) (Zt (c i)) (Zt (d i))<0)) (aa (aN d_ (i+1)) (bI f (c (i+1)) (bI g (d (i+1)) (zyN e (zyR e (ae M) (zyB [] (zyB [] (zyN q.nw (zyR q.nw (au q.C) (zyN q.ng (zyR q.ng (aR q.G) (zyI q.a (zyI q.fl (zyB q.nu (zyB q.de (zyI q.top (zyB [48] (zyB [49] (zyR 5 aA (zyI (z e) (zyI (i+1) (zyN e Q)))))))))))))))))))))) (aa (aN d_ (i+1)) (bI (c i) (c (i+1)) (bI (d i) (d (i+1)) (zyN e (zyR e (ae M) (zyB [] (zyB [] (zyN q.nw (zyR q.nw (au q.C) (zyN q.ng (zyR q.ng (aR q.G) (zyI q.a (zyI q.fl (zyB q.nu (zyB q.de (zyI q.top (zyB [48] (zyB [49] (zyR 5 aA (zyI (z e) (zyI (i+1) (zyN e Q))))))))))))))))))))))))))))))))) (bI (c i) a (bI (d i) b (zyB [] (zyB [] (zyN q.nw (zyR q.nw (au q.C) (zyN q.ng (zyR q.ng (aR q.G) (zyI q.a (zyI q.fl (zyB q.nu (zyB q.de (zyI q.top (zyB [48] (zyB [49] (zyR 5 aA True))))))))))))))))):=by subst_vars;kernel_rfl
def Nw(q)(k)(L G)(C)(g h)(V M)(f e)(c d)(a b)(Q):(kq [fS,cw,cu,bR,mR,fO] [(3001,16,pQ 97 98 99 q k L G C g h V M 0,pR 97 98 99 q f e V M),(12001,19,kD 97 98 99 q f e V (bQ e M) c d 0,kE 97 98 99 q a b)] 96 [.agg (aY q),.az k 3 (bi L G C),.fn 97 [] [],.fn 95 [] [],.fn 98 [] [],.fn 99 [] []] Q)=(Zu PP II false (aD II 96 3001) 16 (pQ 97 98 99 q k L G C g h V M 0) (pR 97 98 99 q f e V M)/\ax (h 0) 0 (ax (g 0) 0 (zyB [] (zyB [] (zyN q.nw (zyR q.nw (au q.C) (zyN q.ng (zyR q.ng (aR q.G) (zyI q.a (zyI q.fl (zyB q.nu (zyB q.de (zyI q.top (zyB [48] (zyB [49] (zyR 5 aA (zyI (z k) (ax (g 0) 0 (zyN k (zyR k (bi L G C) (ax (h 0) 0 (aa (bA e (ae M)&&m_ e e&&b_ e 4611686018427387904&&true&&true) (aa ((g_ (c_ f) λi=>bt.free (ae V i))&&B (f<=f)) (aa (gn [i_ q.nw 3 (au q.C),i_ q.ng 1 (aR q.G),f_ d_ q.a,f_ d_ q.fl,e_ q.nu,e_ q.de,f_ d_ q.top]&&eU {nw:=q.nw,C:=λj k=>bV (au q.C j) k,ng:=q.ng,G:=λj=>q.G j,a:=q.a,fl:=q.fl,nu:=q.nu,de:=q.de,top:=q.top}&&bA f (ae V)&&bX f (aM (ae V))) (Zu PP II false (aD II 96 12001) 19 (kD 97 98 99 q f e V (bQ e M) c d 0) (kE 97 98 99 q a b)/\bI (c8 {nw:=q.nw,C:=λj k=>bV (au q.C j) k,ng:=q.ng,G:=λj=>q.G j,a:=q.a,fl:=q.fl,nu:=q.nu,de:=q.de,top:=q.top} f (aM (ae V))) (c 0) (bI (da {nw:=q.nw,C:=λj k=>bV (au q.C j) k,ng:=q.ng,G:=λj=>q.G j,a:=q.a,fl:=q.fl,nu:=q.nu,de:=q.de,top:=q.top} f (aM (ae V))) (d 0) (zyN e (an e (ae (bQ e (aM (ae M)))) (ae (bQ e M))/\zyN f (zyR f (ae V) (zyB [] (zyB [] (zyN q.nw (zyR q.nw (au q.C) (zyN q.ng (zyR q.ng (aR q.G) (zyI q.a (zyI q.fl (zyB q.nu (zyB q.de (zyI q.top (zyB [48] (zyB [49] (zyR 5 aA (zyI (z e) (zyN f (zyN e (Q (t_ [e_ a,e_ b])))))))))))))))))))))))))))))))))))))))))))))))):=U
def Jo(q)(k)(L G)(c d)(a b)(Q):(kq [fS,cw,cu,bR,mR,fO] [(3001,16,kB 97 98 99 q k L G 0,kC 97 98 99 q k L),(12001,18,kF 97 98 99 q k (bQ k L) c d 0,kG 97 98 99 q a b)] 96 [.agg (aY q),.az k 3 (bi L G λ_=>false),.fn 97 [] [],.fn 95 [] [],.fn 98 [] [],.fn 99 [] []] Q)=(Zu PP II false (aD II 96 3001) 16 (kB 97 98 99 q k L G 0) (kC 97 98 99 q k L)/\zyB [] (zyB [] (zyN q.nw (zyR q.nw (au q.C) (zyN q.ng (zyR q.ng (aR q.G) (zyI q.a (zyI q.fl (zyB q.nu (zyB q.de (zyI q.top (zyB [48] (zyB [49] (zyR 5 aA (zyI (z k) (zyN k (zyR k (bi L G λx=>false) (aa (bA k (ae L)&&m_ k k&&b_ k 4611686018427387904&&true&&true) (aa (gn [i_ q.nw 3 (au q.C),i_ q.ng 1 (aR q.G),f_ d_ q.a,f_ d_ q.fl,e_ q.nu,e_ q.de,f_ d_ q.top]&&eU {nw:=q.nw,C:=λj k=>bV (au q.C j) k,ng:=q.ng,G:=λj=>q.G j,a:=q.a,fl:=q.fl,nu:=q.nu,de:=q.de,top:=q.top}) (Zu PP II false (aD II 96 12001) 18 (kF 97 98 99 q k (bQ k L) c d 0) (kG 97 98 99 q a b)/\bI (c8 {nw:=q.nw,C:=λj k=>bV (au q.C j) k,ng:=q.ng,G:=λj=>q.G j,a:=q.a,fl:=q.fl,nu:=q.nu,de:=q.de,top:=q.top} 0 λx=>0) (c 0) (bI (da {nw:=q.nw,C:=λj k=>bV (au q.C j) k,ng:=q.ng,G:=λj=>q.G j,a:=q.a,fl:=q.fl,nu:=q.nu,de:=q.de,top:=q.top} 0 λx=>0) (d 0) (zyN k (an k (ae (bQ k (aM (ae L)))) (ae (bQ k L))/\zyB [] (zyB [] (zyN q.nw (zyR q.nw (au q.C) (zyN q.ng (zyR q.ng (aR q.G) (zyI q.a (zyI q.fl (zyB q.nu (zyB q.de (zyI q.top (zyB [48] (zyB [49] (zyR 5 aA (zyI (z k) (zyN k (Q (t_ [e_ a,e_ b])))))))))))))))))))))))))))))))))))))))):=U
def wL(q)(k)(L G)(C)(b c)(V M)(e f)(i)(Q):(kr [fS,cw,cu,bR,je,fP] [] 96 3001 16 (pQ 100 101 102 q k L G C b c V M) (λ_=>pR 100 101 102 q e f V M) (λi=>i+1) Q i)=(ah (B (i<z k)) (aa (B (0<=i)&&B (i<z k)) (ah (C i.toNat) (aa (B (b i<=b i)&&true&&true&&B ((b i+1)*8<=140737488355328)&&true) (aa (aN d_ (i+1)) (ax (c i) (c (i+1)) (zyR (c i) (ae M) (ax (b i+1) (b (i+1)) (an (b i+1) (λd=>bif b_ d (b i)then ae V d else k_ 1 (l_ (0+(d-b i)*1) [f_ d_ (G i.toNat)])) (ae V)/\zyB [] (zyB [] (zyN q.nw (zyR q.nw (au q.C) (zyN q.ng (zyR q.ng (aR q.G) (zyI q.a (zyI q.fl (zyB q.nu (zyB q.de (zyI q.top (zyB [48] (zyB [49] (zyR 5 aA (zyI (z k) (ax (b i+1) (b (i+1)) (zyN k (zyR k (bi L G C) (zyI (i+1) (ax (c i) (c (i+1)) Q))))))))))))))))))))))))) (aa (B (c i<=c i)&&true&&true&&B ((c i+1)*8<=140737488355328)&&true) (aa (aN d_ (i+1)) (ax (c i+1) (c (i+1)) (an (c i+1) (λd=>bif b_ d (c i)then ae M d else k_ 1 (l_ (0+(d-c i)*1) [f_ d_ (G i.toNat)])) (ae M)/\ax (b i) (b (i+1)) (zyR (b i) (ae V) (zyB [] (zyB [] (zyN q.nw (zyR q.nw (au q.C) (zyN q.ng (zyR q.ng (aR q.G) (zyI q.a (zyI q.fl (zyB q.nu (zyB q.de (zyI q.top (zyB [48] (zyB [49] (zyR 5 aA (zyI (z k) (ax (b i) (b (i+1)) (zyN k (zyR k (bi L G C) (zyI (i+1) (ax (c i+1) (c (i+1)) Q))))))))))))))))))))))))))) (ax (c i) f (zyR (c i) (ae M) (ax (b i) e (zyR (b i) (ae V) (zyB [] (zyB [] (zyN q.nw (zyR q.nw (au q.C) (zyN q.ng (zyR q.ng (aR q.G) (zyI q.a (zyI q.fl (zyB q.nu (zyB q.de (zyI q.top (zyB [48] (zyB [49] (zyR 5 aA (ax (b i) e (ax (c i) f True))))))))))))))))))))):=U
def ue(q)(k)(L G)(i)(Q):(kr [fS,cw,cu,bR,je,fP] [] 96 3001 16 (kB 100 101 102 q k L G) (λ_=>kC 100 101 102 q k G) (λi=>i+1) Q i)=(ah (B (i<z k)) (aa (B (0<=i)&&B (i<z k)) (aa (B (i.toNat<=i.toNat)&&true&&true&&B ((i.toNat+1)*8<=140737488355328)&&true) (aa (aN d_ (i+1)) (ax (i.toNat+1) (a_ (i+1)) (an (i.toNat+1) (λb=>bif b_ b i.toNat then ae G b else k_ 1 (l_ (0+(b-i.toNat)*1) [f_ d_ (G i.toNat)])) (ae G)/\zyB [] (zyB [] (zyN q.nw (zyR q.nw (au q.C) (zyN q.ng (zyR q.ng (aR q.G) (zyI q.a (zyI q.fl (zyB q.nu (zyB q.de (zyI q.top (zyB [48] (zyB [49] (zyR 5 aA (zyI (z k) (zyN k (zyR k (bi L G λx=>false) (zyI (i+1) (ax (i.toNat+1) (a_ (i+1)) Q))))))))))))))))))))))) (ax i.toNat k (zyR i.toNat (ae G) (zyB [] (zyB [] (zyN q.nw (zyR q.nw (au q.C) (zyN q.ng (zyR q.ng (aR q.G) (zyI q.a (zyI q.fl (zyB q.nu (zyB q.de (zyI q.top (zyB [48] (zyB [49] (zyR 5 aA (ax i.toNat k True)))))))))))))))))):=U
def uf(q)(e f)(V M)(c d)(a b)(i)(Q){g}(m:g=(c8 {nw:=q.nw,C:=λj k=>bV (au q.C j) k,ng:=q.ng,G:=λj=>q.G j,a:=q.a,fl:=q.fl,nu:=q.nu,de:=q.de,top:=q.top} (e+a_ (i+1)) (aM λi=>bif b_ i e then ae (aM (ae V)) i else ae M (i-e)))){h}(n:h=(da {nw:=q.nw,C:=λj k=>bV (au q.C j) k,ng:=q.ng,G:=λj=>q.G j,a:=q.a,fl:=q.fl,nu:=q.nu,de:=q.de,top:=q.top} (e+a_ (i+1)) (aM λi=>bif b_ i e then ae (aM (ae V)) i else ae M (i-e)))){l}(o:l=((B (q.nw=q.nw)&&true&&g_ (c_ q.nw) λi=>B (q.C i 0=q.C i 0)&&(B (q.C i 1=q.C i 1)&&(B (q.C i 2=q.C i 2)&&true)))&&((B (q.ng=q.ng)&&true&&g_ (c_ q.ng) λi=>B (q.G i=q.G i)&&true)&&(B (q.a=q.a)&&(B (q.fl=q.fl)&&(B (q.nu=q.nu)&&(B (q.de=q.de)&&(B (q.top=q.top)&&true)))))))):(kr [fS,cw,cu,bR,je,fP] [] 96 12001 19 (kD 100 101 102 q e f V M c d) (λ_=>kE 100 101 102 q a b) (λi=>i+1) Q i)=(ah (B (i<z f)) (aa (b_ 0 e&&s_ e e&&bA e (ae V)&&s_ e 1000000000000&&true&&true) (aa l (aa (aN d_ (i+1)) (aa (B (0<=i+1)&&B (i+1<=z f)) (aa (B (0<=i+1)&&B (i+1<=z f)) (aa (B (a_ (i+1)=a_ (i+1))&&true) (aa (B (e<=e)&&B (a_ (i+1)<=f)&&true&&B ((e+a_ (i+1))*8<=140737488355328)&&true) (aa l (aa ((g_ (c_ (e+a_ (i+1))) λi=>bt.free (bif b_ i e then ae (aM (ae V)) i else ae M (i-e)))&&B (e+a_ (i+1)<=e+a_ (i+1))) (aa ((gn [i_ q.nw 3 (au q.C),i_ q.ng 1 (aR q.G),f_ d_ q.a,f_ d_ q.fl,e_ q.nu,e_ q.de,f_ d_ q.top]&&eU {nw:=q.nw,C:=λj k=>bV (au q.C j) k,ng:=q.ng,G:=λj=>q.G j,a:=q.a,fl:=q.fl,nu:=q.nu,de:=q.de,top:=q.top}&&bA (e+a_ (i+1)) λi=>bif b_ i e then ae (aM (ae V)) i else ae M (i-e))&&bX (e+a_ (i+1)) (aM λi=>bif b_ i e then ae (aM (ae V)) i else ae M (i-e))) (aa (bJ g h&&bJ (c i) (d i)) (ah (B (bw (Zt g) (Zt h) (Zt (c i)) (Zt (d i))>0)) (aa (aN d_ (i+1)) (bI g (c (i+1)) (bI h (d (i+1)) (zyN f (zyR f (ae M) (zyN e (an e (ae (aM (ae V))) (ae V)/\zyB [] (zyB [] (zyN q.nw (zyR q.nw (au q.C) (zyN q.ng (zyR q.ng (aR q.G) (zyI q.a (zyI q.fl (zyB q.nu (zyB q.de (zyI q.top (zyB [48] (zyB [49] (zyR 5 aA (zyI (z f) (zyN e (zyI (i+1) (zyN f Q)))))))))))))))))))))))) (aa (aN d_ (i+1)) (bI (c i) (c (i+1)) (bI (d i) (d (i+1)) (zyN f (zyR f (ae M) (zyN e (an e (ae (aM (ae V))) (ae V)/\zyB [] (zyB [] (zyN q.nw (zyR q.nw (au q.C) (zyN q.ng (zyR q.ng (aR q.G) (zyI q.a (zyI q.fl (zyB q.nu (zyB q.de (zyI q.top (zyB [48] (zyB [49] (zyR 5 aA (zyI (z f) (zyN e (zyI (i+1) (zyN f Q)))))))))))))))))))))))))))))))))))) (bI (c i) a (bI (d i) b (zyB [] (zyB [] (zyN q.nw (zyR q.nw (au q.C) (zyN q.ng (zyR q.ng (aR q.G) (zyI q.a (zyI q.fl (zyB q.nu (zyB q.de (zyI q.top (zyB [48] (zyB [49] (zyR 5 aA True))))))))))))))))):=by subst_vars;kernel_rfl
def rP(q)(e)(M)(c d)(a b)(i)(Q){f}(l:f=(c8 {nw:=q.nw,C:=λj k=>bV (au q.C j) k,ng:=q.ng,G:=λj=>q.G j,a:=q.a,fl:=q.fl,nu:=q.nu,de:=q.de,top:=q.top} (a_ (i+1)) (aM λi=>bif b_ i 0 then []else ae M (i-0)))){g}(m:g=(da {nw:=q.nw,C:=λj k=>bV (au q.C j) k,ng:=q.ng,G:=λj=>q.G j,a:=q.a,fl:=q.fl,nu:=q.nu,de:=q.de,top:=q.top} (a_ (i+1)) (aM λi=>bif b_ i 0 then []else ae M (i-0)))){h}(n:h=((B (q.nw=q.nw)&&true&&g_ (c_ q.nw) λi=>B (q.C i 0=q.C i 0)&&(B (q.C i 1=q.C i 1)&&(B (q.C i 2=q.C i 2)&&true)))&&((B (q.ng=q.ng)&&true&&g_ (c_ q.ng) λi=>B (q.G i=q.G i)&&true)&&(B (q.a=q.a)&&(B (q.fl=q.fl)&&(B (q.nu=q.nu)&&(B (q.de=q.de)&&(B (q.top=q.top)&&true)))))))):(kr [fS,cw,cu,bR,je,fP] [] 96 12001 18 (kF 100 101 102 q e M c d) (λ_=>kG 100 101 102 q a b) (λi=>i+1) Q i)=(ah (B (i<z e)) (aa h (aa (aN d_ (i+1)) (aa (B (0<=i+1)&&B (i+1<=z e)) (aa (B (0<=i+1)&&B (i+1<=z e)) (aa (B (a_ (i+1)=a_ (i+1))&&true) (aa (B (a_ (i+1)<=e)&&true&&B ((0+a_ (i+1))*8<=140737488355328)&&true) (aa h (aa ((g_ (c_ (0+a_ (i+1))) λi=>bt.free (bif b_ i 0 then []else ae M (i-0)))&&B (a_ (i+1)<=0+a_ (i+1))) (aa ((gn [i_ q.nw 3 (au q.C),i_ q.ng 1 (aR q.G),f_ d_ q.a,f_ d_ q.fl,e_ q.nu,e_ q.de,f_ d_ q.top]&&eU {nw:=q.nw,C:=λj k=>bV (au q.C j) k,ng:=q.ng,G:=λj=>q.G j,a:=q.a,fl:=q.fl,nu:=q.nu,de:=q.de,top:=q.top}&&bA (a_ (i+1)) λi=>bif b_ i 0 then []else ae M (i-0))&&bX (a_ (i+1)) (aM λi=>bif b_ i 0 then []else ae M (i-0))) (aa (bJ f g&&bJ (c i) (d i)) (ah (B (bw (Zt f) (Zt g) (Zt (c i)) (Zt (d i))>0)) (aa (aN d_ (i+1)) (bI f (c (i+1)) (bI g (d (i+1)) (zyN e (zyR e (ae M) (zyB [] (zyB [] (zyN q.nw (zyR q.nw (au q.C) (zyN q.ng (zyR q.ng (aR q.G) (zyI q.a (zyI q.fl (zyB q.nu (zyB q.de (zyI q.top (zyB [48] (zyB [49] (zyR 5 aA (zyI (z e) (zyI (i+1) (zyN e Q)))))))))))))))))))))) (aa (aN d_ (i+1)) (bI (c i) (c (i+1)) (bI (d i) (d (i+1)) (zyN e (zyR e (ae M) (zyB [] (zyB [] (zyN q.nw (zyR q.nw (au q.C) (zyN q.ng (zyR q.ng (aR q.G) (zyI q.a (zyI q.fl (zyB q.nu (zyB q.de (zyI q.top (zyB [48] (zyB [49] (zyR 5 aA (zyI (z e) (zyI (i+1) (zyN e Q))))))))))))))))))))))))))))))))) (bI (c i) a (bI (d i) b (zyB [] (zyB [] (zyN q.nw (zyR q.nw (au q.C) (zyN q.ng (zyR q.ng (aR q.G) (zyI q.a (zyI q.fl (zyB q.nu (zyB q.de (zyI q.top (zyB [48] (zyB [49] (zyR 5 aA True))))))))))))))))):=by subst_vars;kernel_rfl
def Nx(q)(k)(L G)(C)(g h)(V M)(f e)(c d)(a b)(Q):(kq [fS,cw,cu,bR,je,fP] [(3001,16,pQ 100 101 102 q k L G C g h V M 0,pR 100 101 102 q f e V M),(12001,19,kD 100 101 102 q f e V (cK e M) c d 0,kE 100 101 102 q a b)] 96 [.agg (aY q),.az k 3 (bi L G C),.fn 100 [] [],.fn 95 [] [],.fn 101 [] [],.fn 102 [] []] Q)=(Zu PP II false (aD II 96 3001) 16 (pQ 100 101 102 q k L G C g h V M 0) (pR 100 101 102 q f e V M)/\ax (h 0) 0 (ax (g 0) 0 (zyB [] (zyB [] (zyN q.nw (zyR q.nw (au q.C) (zyN q.ng (zyR q.ng (aR q.G) (zyI q.a (zyI q.fl (zyB q.nu (zyB q.de (zyI q.top (zyB [48] (zyB [49] (zyR 5 aA (zyI (z k) (ax (g 0) 0 (zyN k (zyR k (bi L G C) (ax (h 0) 0 (aa (bA e (ae M)&&m_ e e&&b_ e 4611686018427387904&&true&&true) (aa ((g_ (c_ f) λi=>bt.free (ae V i))&&B (f<=f)) (aa (gn [i_ q.nw 3 (au q.C),i_ q.ng 1 (aR q.G),f_ d_ q.a,f_ d_ q.fl,e_ q.nu,e_ q.de,f_ d_ q.top]&&eU {nw:=q.nw,C:=λj k=>bV (au q.C j) k,ng:=q.ng,G:=λj=>q.G j,a:=q.a,fl:=q.fl,nu:=q.nu,de:=q.de,top:=q.top}&&bA f (ae V)&&bX f (aM (ae V))) (Zu PP II false (aD II 96 12001) 19 (kD 100 101 102 q f e V (cK e M) c d 0) (kE 100 101 102 q a b)/\bI (c8 {nw:=q.nw,C:=λj k=>bV (au q.C j) k,ng:=q.ng,G:=λj=>q.G j,a:=q.a,fl:=q.fl,nu:=q.nu,de:=q.de,top:=q.top} f (aM (ae V))) (c 0) (bI (da {nw:=q.nw,C:=λj k=>bV (au q.C j) k,ng:=q.ng,G:=λj=>q.G j,a:=q.a,fl:=q.fl,nu:=q.nu,de:=q.de,top:=q.top} f (aM (ae V))) (d 0) (zyN e (an e (ae (cK e (aM (ae M)))) (ae (cK e M))/\zyN f (zyR f (ae V) (zyB [] (zyB [] (zyN q.nw (zyR q.nw (au q.C) (zyN q.ng (zyR q.ng (aR q.G) (zyI q.a (zyI q.fl (zyB q.nu (zyB q.de (zyI q.top (zyB [48] (zyB [49] (zyR 5 aA (zyI (z e) (zyN f (zyN e (Q (t_ [e_ a,e_ b])))))))))))))))))))))))))))))))))))))))))))))))):=U
def Jp(q)(k)(L G)(c d)(a b)(Q):(kq [fS,cw,cu,bR,je,fP] [(3001,16,kB 100 101 102 q k L G 0,kC 100 101 102 q k G),(12001,18,kF 100 101 102 q k (cK k G) c d 0,kG 100 101 102 q a b)] 96 [.agg (aY q),.az k 3 (bi L G λ_=>false),.fn 100 [] [],.fn 95 [] [],.fn 101 [] [],.fn 102 [] []] Q)=(Zu PP II false (aD II 96 3001) 16 (kB 100 101 102 q k L G 0) (kC 100 101 102 q k G)/\zyB [] (zyB [] (zyN q.nw (zyR q.nw (au q.C) (zyN q.ng (zyR q.ng (aR q.G) (zyI q.a (zyI q.fl (zyB q.nu (zyB q.de (zyI q.top (zyB [48] (zyB [49] (zyR 5 aA (zyI (z k) (zyN k (zyR k (bi L G λx=>false) (aa (bA k (ae G)&&m_ k k&&b_ k 4611686018427387904&&true&&true) (aa (gn [i_ q.nw 3 (au q.C),i_ q.ng 1 (aR q.G),f_ d_ q.a,f_ d_ q.fl,e_ q.nu,e_ q.de,f_ d_ q.top]&&eU {nw:=q.nw,C:=λj k=>bV (au q.C j) k,ng:=q.ng,G:=λj=>q.G j,a:=q.a,fl:=q.fl,nu:=q.nu,de:=q.de,top:=q.top}) (Zu PP II false (aD II 96 12001) 18 (kF 100 101 102 q k (cK k G) c d 0) (kG 100 101 102 q a b)/\bI (c8 {nw:=q.nw,C:=λj k=>bV (au q.C j) k,ng:=q.ng,G:=λj=>q.G j,a:=q.a,fl:=q.fl,nu:=q.nu,de:=q.de,top:=q.top} 0 λx=>0) (c 0) (bI (da {nw:=q.nw,C:=λj k=>bV (au q.C j) k,ng:=q.ng,G:=λj=>q.G j,a:=q.a,fl:=q.fl,nu:=q.nu,de:=q.de,top:=q.top} 0 λx=>0) (d 0) (zyN k (an k (ae (cK k (aM (ae G)))) (ae (cK k G))/\zyB [] (zyB [] (zyN q.nw (zyR q.nw (au q.C) (zyN q.ng (zyR q.ng (aR q.G) (zyI q.a (zyI q.fl (zyB q.nu (zyB q.de (zyI q.top (zyB [48] (zyB [49] (zyR 5 aA (zyI (z k) (zyN k (Q (t_ [e_ a,e_ b])))))))))))))))))))))))))))))))))))))))):=U
end
section
open Go.Sort Go.Shelf Go.Proofs
def dP(n)(L G)(C):an n (bi L G C) (bi L G C):=λ_ _ _=>⟨⟨rfl,rfl⟩,⟨rfl,rfl⟩,rfl,trivial⟩
def jB(n:Nat)(V M:Nat->Int)(i:Nat):Int:=bif b_ i n then V i else M (i-n)
def yW(n)(V M):(aM λi=>bif b_ i n then ae (aM (ae V)) i else ae M (i-n))=jB n V M:=by
 funext i
 show(match(bif b_ i n then ae (aM (ae V)) i else ae M (i-n))with|[.int d_ n]=>n|_=>0)=(bif b_ i n then V i else M (i-n))
 cases b_ i n<;>rfl
def wM(m n)(V M):bA m (λi=>bif b_ i n then ae (aM (ae V)) i else ae M (i-n))=true:=List.all_eq_true.2 λi _=>by
 show(match(bif b_ i n then ae (aM (ae V)) i else ae M (i-n))with|[.int d_ _]=>true|_=>false)=true
 cases b_ i n<;>rfl
def CK(m n)(V M):((c_ m).all λi=>bt.free (bif b_ i n then ae (aM (ae V)) i else ae M (i-n)))=true:=List.all_eq_true.2 λi _=>by
 show bt.free (bif b_ i n then ae (aM (ae V)) i else ae M (i-n))=true
 cases b_ i n<;>rfl
def wN(M):(aM λi=>bif b_ i 0 then []else ae M (i-0))=M:=by
 rfl
def ug(m)(M):bA m (λi=>bif b_ i 0 then []else ae M (i-0))=true:=List.all_eq_true.2 λi _=>by
 rfl
def yX(m)(M):((c_ m).all λi=>bt.free (bif b_ i 0 then []else ae M (i-0)))=true:=List.all_eq_true.2 λi _=>by
 rfl
def dD{m n W}(h:bX n W=true)(a:m<=n):bX m W=true:=by
 obtain⟨b,c⟩:=dW h
 unfold bX
 rw[kV O,Bool.true_and,v_]
 grind
abbrev qX(q:Query):Query:=⟨q.nw,λj k=>bV (au q.C j) k,q.ng,λj=>q.G j,q.a,q.fl,q.nu,q.de,q.top⟩
def oJ(q)(n)(W):c8 ⟨q.nw,λj k=>bV (au q.C j) k,q.ng,λj=>q.G j,q.a,q.fl,q.nu,q.de,q.top⟩ n W=c8 q n W:=rfl
def oK(q)(n)(W):da ⟨q.nw,λj k=>bV (au q.C j) k,q.ng,λj=>q.G j,q.a,q.fl,q.nu,q.de,q.top⟩ n W=da q n W:=rfl
def rQ(q):eU ⟨q.nw,λj k=>bV (au q.C j) k,q.ng,λj=>q.G j,q.a,q.fl,q.nu,q.de,q.top⟩=eU q:=rfl
def jt{q:Query}(b:aI 3 q.nw (au q.C)=true)(c:aI 1 q.ng (aR q.G)=true):gn [.az q.nw 3 (au q.C),.az q.ng 1 (aR q.G),.int d_ q.a,.int d_ q.fl,.str q.nu,.str q.de,.int d_ q.top]=true:=by
 show(aI 3 q.nw (au q.C)&&aI 1 q.ng (aR q.G))=true
 rw[b,c];rfl
def G1(q:Query):((B (q.nw=q.nw)&&true&&(c_ q.nw).all λi=>B (q.C i 0=q.C i 0)&&(B (q.C i 1=q.C i 1)&&(B (q.C i 2=q.C i 2)&&true)))&&((B (q.ng=q.ng)&&true&&(c_ q.ng).all λi=>B (q.G i=q.G i)&&true)&&(B (q.a=q.a)&&(B (q.fl=q.fl)&&(B (q.nu=q.nu)&&(B (q.de=q.de)&&(B (q.top=q.top)&&true)))))))=true:=zA
def CL(q)(k)(L G)(C)(a b)(V M)(e f)(i)(m:Nat)(hi:i=(m:Int))(l:m<k)(n:k<=1000)(o:a i<=1000)(p:b i<=1000)
  (ht:C m=true->a (i+1)=a i+1/\V (a i)=L m/\b (i+1)=b i) (g:C m=false->b (i+1)=b i+1/\M (b i)=L m/\a (i+1)=a i) (Q) (hQ:Q):
  kr [fS,cw,cu,bR,mR,fO] [] 96 3001 16 (pQ 97 98 99 q k L G C a b V M) (λ_=>pR 97 98 99 q e f V M) (λi=>i+1) Q i:=by
 rw[wK]
 have j:a_ i=m:=O
 have r:z k=(k:Int):=rfl
 rw[j]
 have c:aN d_ (i+1)=true:=aq O O
 refine Zg (λ_=>?_) O
 refine cC _ _ Y ?_
 refine Zh (λh=>?_) λh=>?_
 ·obtain⟨k1,d,k2⟩:=ht h
  have k1:=k1.symm
  have k2:=k2.symm
  have rows:=ey V (a i) (L m) d.symm
  refine cC _ _ Y (cC _ _ c ?_)
  exact zX
 ·obtain⟨k1,d,k2⟩:=g h
  have k1:=k1.symm
  have k2:=k2.symm
  have rows:=ey M (b i) (L m) d.symm
  refine cC _ _ Y (cC _ _ c ?_)
  exact zX
def Jq(q)(k:Nat)(L G)(C)(a b)(V M)(c d)(i)(hi:i=(k:Int))(k1:a i=c)(k2:b i=d)(Q):
  kr [fS,cw,cu,bR,mR,fO] [] 96 3001 16 (pQ 97 98 99 q k L G C a b V M) (λ_=>pR 97 98 99 q c d V M) (λi=>i+1) Q i:=by
 rw[wK]
 have e:z k=(k:Int):=rfl
 have hQ:=trivial
 have rows:=trivial
 refine Zg O λ_=>?_
 exact zX
def AQ(q)(k)(L G)(i)(m:Nat)(hi:i=(m:Int))(d:m<k)(e:k<=1000)(Q)(hQ:Q):
  kr [fS,cw,cu,bR,mR,fO] [] 96 3001 16 (kB 97 98 99 q k L G) (λ_=>kC 97 98 99 q k L) (λi=>i+1) Q i:=by
 rw[uc]
 have b:a_ i=m:=O
 have c:a_ (i+1)=m+1:=O
 have f:z k=(k:Int):=rfl
 rw[b,c]
 have a:aN d_ (i+1)=true:=aq O O
 have k1:=trivial
 have k2:=trivial
 have rows:=ey L m (L m) A
 refine Zg (λ_=>?_) O
 refine cC _ _ Y (cC _ _ Y (cC _ _ a ?_))
 exact zX
def Fk(q)(k:Nat)(L G)(i)(hi:i=(k:Int))(Q):
  kr [fS,cw,cu,bR,mR,fO] [] 96 3001 16 (kB 97 98 99 q k L G) (λ_=>kC 97 98 99 q k L) (λi=>i+1) Q i:=by
 rw[uc]
 have a:z k=(k:Int):=rfl
 have k1:a_ i=k:=O
 have k2:=trivial
 have hQ:=trivial
 have rows:=trivial
 rw[k1]
 refine Zg O λ_=>?_
 exact zX
def CM(q)(k)(L G)(C)(a b)(V M)(e f)(i)(m:Nat)(hi:i=(m:Int))(l:m<k)(n:k<=1000)(o:a i<=1000)(p:b i<=1000)
  (ht:C m=true->a (i+1)=a i+1/\V (a i)=G m/\b (i+1)=b i) (g:C m=false->b (i+1)=b i+1/\M (b i)=G m/\a (i+1)=a i) (Q) (hQ:Q):
  kr [fS,cw,cu,bR,je,fP] [] 96 3001 16 (pQ 100 101 102 q k L G C a b V M) (λ_=>pR 100 101 102 q e f V M) (λi=>i+1) Q i:=by
 rw[wL]
 have j:a_ i=m:=O
 have r:z k=(k:Int):=rfl
 rw[j]
 have c:aN d_ (i+1)=true:=aq O O
 refine Zg (λ_=>?_) O
 refine cC _ _ Y ?_
 refine Zh (λh=>?_) λh=>?_
 ·obtain⟨k1,d,k2⟩:=ht h
  have k1:=k1.symm
  have k2:=k2.symm
  have rows:=ey V (a i) (G m) d.symm
  refine cC _ _ Y (cC _ _ c ?_)
  exact zX
 ·obtain⟨k1,d,k2⟩:=g h
  have k1:=k1.symm
  have k2:=k2.symm
  have rows:=ey M (b i) (G m) d.symm
  refine cC _ _ Y (cC _ _ c ?_)
  exact zX
def Jr(q)(k:Nat)(L G)(C)(a b)(V M)(c d)(i)(hi:i=(k:Int))(k1:a i=c)(k2:b i=d)(Q):
  kr [fS,cw,cu,bR,je,fP] [] 96 3001 16 (pQ 100 101 102 q k L G C a b V M) (λ_=>pR 100 101 102 q c d V M) (λi=>i+1) Q i:=by
 rw[wL]
 have e:z k=(k:Int):=rfl
 have hQ:=trivial
 have rows:=trivial
 refine Zg O λ_=>?_
 exact zX
def AR(q)(k)(L G)(i)(m:Nat)(hi:i=(m:Int))(d:m<k)(e:k<=1000)(Q)(hQ:Q):
  kr [fS,cw,cu,bR,je,fP] [] 96 3001 16 (kB 100 101 102 q k L G) (λ_=>kC 100 101 102 q k G) (λi=>i+1) Q i:=by
 rw[ue]
 have b:a_ i=m:=O
 have c:a_ (i+1)=m+1:=O
 have f:z k=(k:Int):=rfl
 rw[b,c]
 have a:aN d_ (i+1)=true:=aq O O
 have k1:=trivial
 have k2:=trivial
 have rows:=ey G m (G m) A
 refine Zg (λ_=>?_) O
 refine cC _ _ Y (cC _ _ Y (cC _ _ a ?_))
 exact zX
def Fl(q)(k:Nat)(L G)(i)(hi:i=(k:Int))(Q):
  kr [fS,cw,cu,bR,je,fP] [] 96 3001 16 (kB 100 101 102 q k L G) (λ_=>kC 100 101 102 q k G) (λi=>i+1) Q i:=by
 rw[ue]
 have a:z k=(k:Int):=rfl
 have k1:a_ i=k:=O
 have k2:=trivial
 have hQ:=trivial
 have rows:=trivial
 rw[k1]
 refine Zg O λ_=>?_
 exact zX
def AS(q)(e f)(V M)(c d)(a b)(i)(m:Nat)(hi:i=(m:Int))(x:m<f)(o:0<e)(p:aI 3 q.nw (au q.C)=true)(r:aI 1 q.ng (aR q.G)=true)(l:eU q=true)(n:bX (e+f) (jB e V M)=true)(s:bJ (c i) (d i)=true)
  (t:bw (Zt (c8 q (e+(m+1)) (jB e V M))) (Zt (da q (e+(m+1)) (jB e V M))) (Zt (c i)) (Zt (d i))<0->c (i+1)=c8 q (e+(m+1)) (jB e V M)/\d (i+1)=da q (e+(m+1)) (jB e V M)) (u :¬ bw (Zt (c8 q (e+(m+1)) (jB e V M))) (Zt (da q (e+(m+1)) (jB e V M))) (Zt (c i)) (Zt (d i))<0->c (i+1)=c i/\d (i+1)=d i) (Q) (hQ:Q):
  kr [fS,cw,cu,bR,mR,fO] [] 96 12001 19 (kD 97 98 99 q e f V M c d) (λ_=>kE 97 98 99 q a b) (λi=>i+1) Q i:=by
 obtain⟨y,_⟩:=dW n
 rw[ud _ _ _ _ _ _ _ _ _ _ _ A A A]
 have v:a_ (i+1)=m+1:=O
 have D:z f=(f:Int):=rfl
 have j:=dD n (O:e+(m+1)<=e+f)
 have w:=cz j l
 have g:aN d_ (i+1)=true:=aq O O
 have k:(B (0<=i+1)&&B (i+1<=z f))=true:=by simp only[bf,bn];omega
 have k1:=trivial
 have k2:=trivial
 have rows:=trivial
 rw[v,yW,wM,CK,G1,jt p r,rQ,l,oJ,oK,j,w,s]
 refine Zg (λ_=>?_) O
 refine cC _ _ (by rw[eV o,kV (dw e),dy,kV O];rfl) ?_
 refine cC _ _ A (cC _ _ g (cC _ _ k (cC _ _ k (cC _ _ zA (cC _ _ Y (cC _ _ A (cC _ _ zA (cC _ _ A (cC _ _ A ?_)))))))))
 refine Zg (λh=>?_) λh=>?_
 ·have hA:=t h
  refine cC _ _ g ?_
  exact zY
 ·have hA:=u h
  refine cC _ _ g ?_
  exact zY
def Fm(q)(f e:Nat)(V M)(c d)(a b)(i)(hi:i=(e:Int))(hA:a=c i/\b=d i)(Q):
  kr [fS,cw,cu,bR,mR,fO] [] 96 12001 19 (kD 97 98 99 q f e V M c d) (λ_=>kE 97 98 99 q a b) (λi=>i+1) Q i:=by
 rw[ud _ _ _ _ _ _ _ _ _ _ _ A A A]
 have g:z e=(e:Int):=rfl
 have hQ:=trivial
 have k1:=trivial
 have k2:=trivial
 have rows:=trivial
 refine Zg O λ_=>?_
 exact zY
def xW(q)(e)(M)(c d)(a b)(i)(m:Nat)(hi:i=(m:Int))(v:m<e)(n:aI 3 q.nw (au q.C)=true)(o:aI 1 q.ng (aR q.G)=true)(k:eU q=true)(l:bX (e) M=true)(p:bJ (c i) (d i)=true)
  (r:bw (Zt (c8 q (m+1) M)) (Zt (da q (m+1) M)) (Zt (c i)) (Zt (d i))<0->c (i+1)=c8 q (m+1) M/\d (i+1)=da q (m+1) M) (s :¬ bw (Zt (c8 q (m+1) M)) (Zt (da q (m+1) M)) (Zt (c i)) (Zt (d i))<0->c (i+1)=c i/\d (i+1)=d i) (Q) (hQ:Q):
  kr [fS,cw,cu,bR,mR,fO] [] 96 12001 18 (kF 97 98 99 q e M c d) (λ_=>kG 97 98 99 q a b) (λi=>i+1) Q i:=by
 obtain⟨w,_⟩:=dW l
 rw[rO _ _ _ _ _ _ _ _ _ A A A]
 have t:a_ (i+1)=m+1:=O
 have x:z e=(e:Int):=rfl
 have g:=dD l (O:m+1<=e)
 have u:=cz g k
 have f:aN d_ (i+1)=true:=aq O O
 have j:(B (0<=i+1)&&B (i+1<=z e))=true:=by simp only[bf,bn];omega
 have k1:=trivial
 have k2:=trivial
 have rows:=trivial
 rw[t,wN,ug,yX,G1,jt n o,rQ,k,oJ,oK,g,u,p]
 refine Zg (λ_=>?_) O
 refine cC _ _ A (cC _ _ f (cC _ _ j (cC _ _ j (cC _ _ zA (cC _ _ Y (cC _ _ A (cC _ _ zA (cC _ _ A (cC _ _ A ?_)))))))))
 refine Zg (λh=>?_) λh=>?_
 ·have hA:=r h
  refine cC _ _ f ?_
  exact zY
 ·have hA:=s h
  refine cC _ _ f ?_
  exact zY
def CN(q)(e:Nat)(M)(c d)(a b)(i)(hi:i=(e:Int))(hA:a=c i/\b=d i)(Q):
  kr [fS,cw,cu,bR,mR,fO] [] 96 12001 18 (kF 97 98 99 q e M c d) (λ_=>kG 97 98 99 q a b) (λi=>i+1) Q i:=by
 rw[rO _ _ _ _ _ _ _ _ _ A A A]
 have f:z e=(e:Int):=rfl
 have hQ:=trivial
 have k1:=trivial
 have k2:=trivial
 have rows:=trivial
 refine Zg O λ_=>?_
 exact zY
def AT(q)(e f)(V M)(c d)(a b)(i)(m:Nat)(hi:i=(m:Int))(x:m<f)(o:0<e)(p:aI 3 q.nw (au q.C)=true)(r:aI 1 q.ng (aR q.G)=true)(l:eU q=true)(n:bX (e+f) (jB e V M)=true)(s:bJ (c i) (d i)=true)
  (t:bw (Zt (c8 q (e+(m+1)) (jB e V M))) (Zt (da q (e+(m+1)) (jB e V M))) (Zt (c i)) (Zt (d i))>0->c (i+1)=c8 q (e+(m+1)) (jB e V M)/\d (i+1)=da q (e+(m+1)) (jB e V M)) (u :¬ bw (Zt (c8 q (e+(m+1)) (jB e V M))) (Zt (da q (e+(m+1)) (jB e V M))) (Zt (c i)) (Zt (d i))>0->c (i+1)=c i/\d (i+1)=d i) (Q) (hQ:Q):
  kr [fS,cw,cu,bR,je,fP] [] 96 12001 19 (kD 100 101 102 q e f V M c d) (λ_=>kE 100 101 102 q a b) (λi=>i+1) Q i:=by
 obtain⟨y,_⟩:=dW n
 rw[uf _ _ _ _ _ _ _ _ _ _ _ A A A]
 have v:a_ (i+1)=m+1:=O
 have D:z f=(f:Int):=rfl
 have j:=dD n (O:e+(m+1)<=e+f)
 have w:=cz j l
 have g:aN d_ (i+1)=true:=aq O O
 have k:(B (0<=i+1)&&B (i+1<=z f))=true:=by simp only[bf,bn];omega
 have k1:=trivial
 have k2:=trivial
 have rows:=trivial
 rw[v,yW,wM,CK,G1,jt p r,rQ,l,oJ,oK,j,w,s]
 refine Zg (λ_=>?_) O
 refine cC _ _ (by rw[eV o,kV (dw e),dy,kV O];rfl) ?_
 refine cC _ _ A (cC _ _ g (cC _ _ k (cC _ _ k (cC _ _ zA (cC _ _ Y (cC _ _ A (cC _ _ zA (cC _ _ A (cC _ _ A ?_)))))))))
 refine Zg (λh=>?_) λh=>?_
 ·have hA:=t h
  refine cC _ _ g ?_
  exact zY
 ·have hA:=u h
  refine cC _ _ g ?_
  exact zY
def Fo(q)(f e:Nat)(V M)(c d)(a b)(i)(hi:i=(e:Int))(hA:a=c i/\b=d i)(Q):
  kr [fS,cw,cu,bR,je,fP] [] 96 12001 19 (kD 100 101 102 q f e V M c d) (λ_=>kE 100 101 102 q a b) (λi=>i+1) Q i:=by
 rw[uf _ _ _ _ _ _ _ _ _ _ _ A A A]
 have g:z e=(e:Int):=rfl
 have hQ:=trivial
 have k1:=trivial
 have k2:=trivial
 have rows:=trivial
 refine Zg O λ_=>?_
 exact zY
def xX(q)(e)(M)(c d)(a b)(i)(m:Nat)(hi:i=(m:Int))(v:m<e)(n:aI 3 q.nw (au q.C)=true)(o:aI 1 q.ng (aR q.G)=true)(k:eU q=true)(l:bX (e) M=true)(p:bJ (c i) (d i)=true)
  (r:bw (Zt (c8 q (m+1) M)) (Zt (da q (m+1) M)) (Zt (c i)) (Zt (d i))>0->c (i+1)=c8 q (m+1) M/\d (i+1)=da q (m+1) M) (s :¬ bw (Zt (c8 q (m+1) M)) (Zt (da q (m+1) M)) (Zt (c i)) (Zt (d i))>0->c (i+1)=c i/\d (i+1)=d i) (Q) (hQ:Q):
  kr [fS,cw,cu,bR,je,fP] [] 96 12001 18 (kF 100 101 102 q e M c d) (λ_=>kG 100 101 102 q a b) (λi=>i+1) Q i:=by
 obtain⟨w,_⟩:=dW l
 rw[rP _ _ _ _ _ _ _ _ _ A A A]
 have t:a_ (i+1)=m+1:=O
 have x:z e=(e:Int):=rfl
 have g:=dD l (O:m+1<=e)
 have u:=cz g k
 have f:aN d_ (i+1)=true:=aq O O
 have j:(B (0<=i+1)&&B (i+1<=z e))=true:=by simp only[bf,bn];omega
 have k1:=trivial
 have k2:=trivial
 have rows:=trivial
 rw[t,wN,ug,yX,G1,jt n o,rQ,k,oJ,oK,g,u,p]
 refine Zg (λ_=>?_) O
 refine cC _ _ A (cC _ _ f (cC _ _ j (cC _ _ j (cC _ _ zA (cC _ _ Y (cC _ _ A (cC _ _ zA (cC _ _ A (cC _ _ A ?_)))))))))
 refine Zg (λh=>?_) λh=>?_
 ·have hA:=r h
  refine cC _ _ f ?_
  exact zY
 ·have hA:=s h
  refine cC _ _ f ?_
  exact zY
def CP(q)(e:Nat)(M)(c d)(a b)(i)(hi:i=(e:Int))(hA:a=c i/\b=d i)(Q):
  kr [fS,cw,cu,bR,je,fP] [] 96 12001 18 (kF 100 101 102 q e M c d) (λ_=>kG 100 101 102 q a b) (λi=>i+1) Q i:=by
 rw[rP _ _ _ _ _ _ _ _ _ A A A]
 have f:z e=(e:Int):=rfl
 have hQ:=trivial
 have k1:=trivial
 have k2:=trivial
 have rows:=trivial
 refine Zg O λ_=>?_
 exact zY
end
section
open Go.Sort Go.Shelf Go.Proofs
def aP(p:Nat->Bool)(k:Nat):Nat:=((c_ k).filter p).length
def bS(p:Nat->Bool)(W:Nat->Int)(k j:Nat):Int:=(((c_ k).filter p).map W).getD j 0
def iE{p m}(h:p m=true):aP p (m+1)=aP p m+1:=by
 unfold aP;rw[x_,n_,u_];simp[h]
def kO{p m}(h:p m=false):aP p (m+1)=aP p m:=by
 unfold aP;rw[x_,n_,u_];simp[h]
def jV(p)(k):aP p k<=k:=by
 unfold aP
 grind
def mU(p):∀k,aP p k+aP (λi=>!p i) k=k
 |0=>rfl
 |k+1=>by
  have a:=mU p k
  cases h:p k with
  |true=>rw[iE h,kO (p:=λi=>!p i) Y];omega
  |false=>rw[kO h,iE (p:=λi=>!p i) Y];omega
def rR{p W k m}(a:m<k)(h:p m=true):bS p W k (aP p m)=W m:=by
 unfold bS aP
 obtain⟨r,rfl⟩:∃r,k=m+(r+1):=⟨k-m-1,O⟩
 rw[List.range_add,List.range_succ_eq_map,List.map_cons,n_,List.filter_cons,Nat.add_zero,h]
 simp
def Ny{p W k j}(a:j<aP p k):∃m,m<k/\bS p W k j=W m:=by
 unfold bS
 rw[r_,mo (by simpa [aP]using a)]
 have:(((c_ k).filter p).map W)[j]'(by simpa [aP]using a)∈((c_ k).filter p).map W:=w_ _
 grind
def CQ{p:Nat->Bool}{k:Nat}(h:(c_ k).any p=true):0<aP p k:=by
 obtain⟨m,a,b⟩:=List.any_eq_true.1 h
 exact List.length_pos_iff.2 (List.ne_nil_of_mem (List.mem_filter.2 ⟨a,b⟩))
def Fp{k W i}(hi:i<k):∃j,j<k/\cK k W i=W j:=by
 have a:=nR (ltOf pP) k W
 have:cK k W i∈dp (ltOf pP) k W:=by
  unfold cK
  rw[r_,mo O]
  exact w_ _
 unfold dp at this
 rw[List.mem_mergeSort]at this
 grind
def fA(W:Nat->Int)(k:Nat):Prop := ∀i,i<k->0<=W i/\W i<=4398046511104
def dn{k W}(a:k<=1000)(h:fA W k):bX k W=true:=by
 unfold bX
 rw[kV a,Bool.true_and,v_]
 intro i hi
 obtain⟨b,c⟩:=h i (List.mem_range.1 hi)
 grind
def fR{p W k}(h:fA W k):fA (bS p W k) (aP p k):=λj a=>by
 obtain⟨m,b,c⟩:=Ny (W:=W) a
 rw[c];exact h m b
def pI{V M n m}(a:fA V n)(b:fA M m):fA (jB n V M) (n+m):=λi hi=>by
 show 0<=(bif b_ i n then V i else M (i-n))/\(bif b_ i n then V i else M (i-n))<=_
 by_cases h:i<n
 ·rw[eV h];exact a i h
 ·rw[js h];exact b (i-n) O
def aS(better:Int->Bool)(R:Nat->List UInt8×List UInt8):Nat->List UInt8×List UInt8
 |0=>R 0
 |i+1=>match better (bw (Zt (R (i+1)).1) (Zt (R (i+1)).2) (Zt (aS better R i).1) (Zt (aS better R i).2))with
  |true=>R (i+1)
  |false=>aS better R i
def Zx{better R}:∀i,∃j,j<=i/\aS better R i=R j
 |0=>⟨0,dw _,rfl⟩
 |i+1=>by
  obtain⟨j,a,e⟩:=Zx (better:=better) (R:=R) i
  show ∃j,j<=i+1/\(match better _ with|true=>R (i+1)|false=>aS better R i)=R j
  grind
def bN(q:Query)(a:Nat)(V M:Nat->Int):Nat->List UInt8×List UInt8
 |0=>(c8 q a V,da q a V)
 |i+1=>(c8 q (a+(i+1)) (jB a V M),da q (a+(i+1)) (jB a V M))
def br(q:Query)(M:Nat->Int):Nat->List UInt8×List UInt8
 |0=>(c8 q 0 λ_=>0,da q 0 λ_=>0)
 |i+1=>(c8 q (i+1) M,da q (i+1) M)
def eO(q:Query)(k:Nat)(W:Nat->Int)(C:Nat->Bool):List UInt8×List UInt8:=match(c_ k).any C with
 |true=>aS (λc=>B (c<0)) (bN q (aP C k) (bS C W k) (bQ (aP (λi=>!C i) k) (bS (λi=>!C i) W k))) (aP (λi=>!C i) k)
 |false=>aS (λc=>B (c<0)) (br q (bQ k W)) k
def kP{W k}(h:fA W k):fA (bQ k W) k:=λi hi=>by
 obtain⟨j,a,e⟩:=qI (W:=W) hi
 rw[e];exact h j a
def CR(q)(k)(L G)(C)(f:k<=1000):Zu PP II false (aD II 96 3001) 16 (pQ 97 98 99 q k L G C (λi=>aP C i.toNat) (λi=>aP (λi=>!C i) i.toNat) (bS C L k) (bS (λi=>!C i) L k) 0) (pR 97 98 99 q (aP C k) (aP (λi=>!C i) k) (bS C L k) (bS (λi=>!C i) L k)):=by
 have key:=Zu.of (ι:=Nat) iw [fS,cw,cu,bR,mR,fO] (bm PP II []) 1000 (c:=aD II 96 3001) (ir:=false) 16 (λi=>i<=k) (λi=>pQ 97 98 99 q k L G C (λi=>aP C i.toNat) (λi=>aP (λi=>!C i) i.toNat) (bS C L k) (bS (λi=>!C i) L k) (i:Int)) (λ_=>pR 97 98 99 q (aP C k) (aP (λi=>!C i) k) (bS C L k) (bS (λi=>!C i) L k)) (λi=>k-i) (λi=>i+1) 0 A (h_ _) λi hi=>?_
 ·exact key
 have hi:i<=k:=hi
 have b:((i:Int)).toNat=i:=O
 have d:((i:Int)+1).toNat=i+1:=O
 by_cases a:i<k
 ·have l1:=jV C i
  have l2:=jV (λi=>!C i) i
  refine CL q k L G C _ _ _ _ _ _ (i:Int) i A a f ?_ ?_ (λh=>?_) (λh=>?_) _ Y
  grind
  grind
  ·show aP C ((i:Int)+1).toNat=aP C ((i:Int)).toNat+1/\bS C L k (aP C ((i:Int)).toNat)=L i/\aP (λi=>!C i) ((i:Int)+1).toNat=aP (λi=>!C i) ((i:Int)).toNat
   rw[b,d]
   exact⟨iE h,rR a h,kO (p:=λi=>!C i) Y⟩
  ·have e:(λi=>!C i) i=true:=by show(!C i)=true;rw[h];rfl
   show aP (λi=>!C i) ((i:Int)+1).toNat=aP (λi=>!C i) ((i:Int)).toNat+1/\bS (λi=>!C i) L k (aP (λi=>!C i) ((i:Int)).toNat)=L i/\aP C ((i:Int)+1).toNat=aP C ((i:Int)).toNat
   rw[b,d]
   exact⟨iE e,rR a e,kO h⟩
 ·have hi:i=k:=by omega
  subst hi
  refine Jq q i L G C _ _ _ _ _ _ (i:Int) A ?_ ?_ _
  all_goals rfl
def AU(q)(k)(L G)(b:k<=1000):Zu PP II false (aD II 96 3001) 16 (kB 97 98 99 q k L G 0) (kC 97 98 99 q k L):=by
 have key:=Zu.of (ι:=Nat) iw [fS,cw,cu,bR,mR,fO] (bm PP II []) 1000 (c:=aD II 96 3001) (ir:=false) 16 (λi=>i<=k) (λi=>kB 97 98 99 q k L G (i:Int)) (λ_=>kC 97 98 99 q k L) (λi=>k-i) (λi=>i+1) 0 A (h_ _) λi hi=>?_
 ·exact key
 have hi:i<=k:=hi
 by_cases a:i<k
 ·exact AQ q k L G (i:Int) i A a b _ Y
 ·have hi:i=k:=by omega
  subst hi
  exact Fk q i L G (i:Int) A _
def CS(q)(a b)(V M)(l:0<a)(m:aI 3 q.nw (au q.C)=true)(n:aI 1 q.ng (aR q.G)=true)(d:eU q=true)(o:a+b<=1000)(g:fA V a)(p:fA M b):
  Zu PP II false (aD II 96 12001) 19 (kD 97 98 99 q a b V M (λi=>(aS (λc=>B (c<0)) (bN q a V M) i.toNat).1) (λi=>(aS (λc=>B (c<0)) (bN q a V M) i.toNat).2) 0) (kE 97 98 99 q (aS (λc=>B (c<0)) (bN q a V M) b).1 (aS (λc=>B (c<0)) (bN q a V M) b).2):=by
 have k:=dn o (pI g p)
 have r:∀i,i<=b->bJ (bN q a V M i).1 (bN q a V M i).2=true:=λi hi=>by
  cases i with
  |zero=>exact cz (dn O g) d
  |succ i=>exact cz (dD k O) d
 have s:∀i,i<=b->bJ (aS (λc=>B (c<0)) (bN q a V M) i).1 (aS (λc=>B (c<0)) (bN q a V M) i).2=true:=λi hi=>by
  obtain⟨j,t,e⟩:=Zx (better:=λc=>B (c<0)) (R:=bN q a V M) i
  grind
 have u:∀i,(aS (λc=>B (c<0)) (bN q a V M) (i+1))=match B (bw (Zt (c8 q (a+(i+1)) (jB a V M))) (Zt (da q (a+(i+1)) (jB a V M))) (Zt (aS (λc=>B (c<0)) (bN q a V M) i).1) (Zt (aS (λc=>B (c<0)) (bN q a V M) i).2)<0)with|true=>(c8 q (a+(i+1)) (jB a V M),da q (a+(i+1)) (jB a V M))|false=>aS (λc=>B (c<0)) (bN q a V M) i:=λi=>rfl
 generalize aS (λc=>B (c<0)) (bN q a V M)=Z at*
 have key:=Zu.of (ι:=Nat) iw [fS,cw,cu,bR,mR,fO] (bm PP II []) 1000 (c:=aD II 96 12001) (ir:=false) 19 (λi=>i<=b) (λi=>kD 97 98 99 q a b V M (λi=>(Z i.toNat).1) (λi=>(Z i.toNat).2) (i:Int)) (λ_=>kE 97 98 99 q (Z b).1 (Z b).2) (λi=>b-i) (λi=>i+1) 0 A (h_ _) λi hi=>?_
 ·exact key
 have hi:i<=b:=hi
 have v:((i:Int)).toNat=i:=O
 have w:((i:Int)+1).toNat=i+1:=O
 by_cases f:i<b
 ·refine AS q a b V M _ _ _ _ (i:Int) i A f l m n d k ?_ (λh=>?_) (λh=>?_) _ Y
  all_goals grind
 ·have hi:i=b:=by omega
  subst hi
  refine Fm q a i V M _ _ _ _ (i:Int) A ?_ _
  simp
def AW(q)(a)(M)(g:aI 3 q.nw (au q.C)=true)(l:aI 1 q.ng (aR q.G)=true)(b:eU q=true)(m:a<=1000)(n:fA M a):
  Zu PP II false (aD II 96 12001) 18 (kF 97 98 99 q a M (λi=>(aS (λc=>B (c<0)) (br q M) i.toNat).1) (λi=>(aS (λc=>B (c<0)) (br q M) i.toNat).2) 0) (kG 97 98 99 q (aS (λc=>B (c<0)) (br q M) a).1 (aS (λc=>B (c<0)) (br q M) a).2):=by
 have f:=dn m n
 have o:∀i,i<=a->bJ (br q M i).1 (br q M i).2=true:=λi hi=>by
  cases i with
  |zero=>exact cz (k:=0) (W:=λ_=>0) A b
  |succ i=>exact cz (dD f O) b
 have p:∀i,i<=a->bJ (aS (λc=>B (c<0)) (br q M) i).1 (aS (λc=>B (c<0)) (br q M) i).2=true:=λi hi=>by
  obtain⟨j,r,e⟩:=Zx (better:=λc=>B (c<0)) (R:=br q M) i
  grind
 have s:∀i,(aS (λc=>B (c<0)) (br q M) (i+1))=match B (bw (Zt (c8 q (i+1) M)) (Zt (da q (i+1) M)) (Zt (aS (λc=>B (c<0)) (br q M) i).1) (Zt (aS (λc=>B (c<0)) (br q M) i).2)<0)with|true=>(c8 q (i+1) M,da q (i+1) M)|false=>aS (λc=>B (c<0)) (br q M) i:=λi=>rfl
 generalize aS (λc=>B (c<0)) (br q M)=Z at*
 have key:=Zu.of (ι:=Nat) iw [fS,cw,cu,bR,mR,fO] (bm PP II []) 1000 (c:=aD II 96 12001) (ir:=false) 18 (λi=>i<=a) (λi=>kF 97 98 99 q a M (λi=>(Z i.toNat).1) (λi=>(Z i.toNat).2) (i:Int)) (λ_=>kG 97 98 99 q (Z a).1 (Z a).2) (λi=>a-i) (λi=>i+1) 0 A (h_ _) λi hi=>?_
 ·exact key
 have hi:i<=a:=hi
 have t:((i:Int)).toNat=i:=O
 have u:((i:Int)+1).toNat=i+1:=O
 by_cases d:i<a
 ·refine xW q a M _ _ _ _ (i:Int) i A d g l b f ?_ (λh=>?_) (λh=>?_) _ Y
  all_goals grind
 ·have hi:i=a:=by omega
  subst hi
  refine CN q i M _ _ _ _ (i:Int) A ?_ _
  simp
def dQ(q:Query)(k:Nat)(W:Nat->Int)(C:Nat->Bool):List UInt8×List UInt8:=match(c_ k).any C with
 |true=>aS (λc=>B (c>0)) (bN q (aP C k) (bS C W k) (cK (aP (λi=>!C i) k) (bS (λi=>!C i) W k))) (aP (λi=>!C i) k)
 |false=>aS (λc=>B (c>0)) (br q (cK k W)) k
def kQ{W k}(h:fA W k):fA (cK k W) k:=λi hi=>by
 obtain⟨j,a,e⟩:=Fp (W:=W) hi
 rw[e];exact h j a
def CT(q)(k)(L G)(C)(f:k<=1000):Zu PP II false (aD II 96 3001) 16 (pQ 100 101 102 q k L G C (λi=>aP C i.toNat) (λi=>aP (λi=>!C i) i.toNat) (bS C G k) (bS (λi=>!C i) G k) 0) (pR 100 101 102 q (aP C k) (aP (λi=>!C i) k) (bS C G k) (bS (λi=>!C i) G k)):=by
 have key:=Zu.of (ι:=Nat) iw [fS,cw,cu,bR,je,fP] (bm PP II []) 1000 (c:=aD II 96 3001) (ir:=false) 16 (λi=>i<=k) (λi=>pQ 100 101 102 q k L G C (λi=>aP C i.toNat) (λi=>aP (λi=>!C i) i.toNat) (bS C G k) (bS (λi=>!C i) G k) (i:Int)) (λ_=>pR 100 101 102 q (aP C k) (aP (λi=>!C i) k) (bS C G k) (bS (λi=>!C i) G k)) (λi=>k-i) (λi=>i+1) 0 A (h_ _) λi hi=>?_
 ·exact key
 have hi:i<=k:=hi
 have b:((i:Int)).toNat=i:=O
 have d:((i:Int)+1).toNat=i+1:=O
 by_cases a:i<k
 ·have l1:=jV C i
  have l2:=jV (λi=>!C i) i
  refine CM q k L G C _ _ _ _ _ _ (i:Int) i A a f ?_ ?_ (λh=>?_) (λh=>?_) _ Y
  grind
  grind
  ·show aP C ((i:Int)+1).toNat=aP C ((i:Int)).toNat+1/\bS C G k (aP C ((i:Int)).toNat)=G i/\aP (λi=>!C i) ((i:Int)+1).toNat=aP (λi=>!C i) ((i:Int)).toNat
   rw[b,d]
   exact⟨iE h,rR a h,kO (p:=λi=>!C i) Y⟩
  ·have e:(λi=>!C i) i=true:=by show(!C i)=true;rw[h];rfl
   show aP (λi=>!C i) ((i:Int)+1).toNat=aP (λi=>!C i) ((i:Int)).toNat+1/\bS (λi=>!C i) G k (aP (λi=>!C i) ((i:Int)).toNat)=G i/\aP C ((i:Int)+1).toNat=aP C ((i:Int)).toNat
   rw[b,d]
   exact⟨iE e,rR a e,kO h⟩
 ·have hi:i=k:=by omega
  subst hi
  refine Jr q i L G C _ _ _ _ _ _ (i:Int) A ?_ ?_ _
  all_goals rfl
def AX(q)(k)(L G)(b:k<=1000):Zu PP II false (aD II 96 3001) 16 (kB 100 101 102 q k L G 0) (kC 100 101 102 q k G):=by
 have key:=Zu.of (ι:=Nat) iw [fS,cw,cu,bR,je,fP] (bm PP II []) 1000 (c:=aD II 96 3001) (ir:=false) 16 (λi=>i<=k) (λi=>kB 100 101 102 q k L G (i:Int)) (λ_=>kC 100 101 102 q k G) (λi=>k-i) (λi=>i+1) 0 A (h_ _) λi hi=>?_
 ·exact key
 have hi:i<=k:=hi
 by_cases a:i<k
 ·exact AR q k L G (i:Int) i A a b _ Y
 ·have hi:i=k:=by omega
  subst hi
  exact Fl q i L G (i:Int) A _
def CU(q)(a b)(V M)(l:0<a)(m:aI 3 q.nw (au q.C)=true)(n:aI 1 q.ng (aR q.G)=true)(d:eU q=true)(o:a+b<=1000)(g:fA V a)(p:fA M b):
  Zu PP II false (aD II 96 12001) 19 (kD 100 101 102 q a b V M (λi=>(aS (λc=>B (c>0)) (bN q a V M) i.toNat).1) (λi=>(aS (λc=>B (c>0)) (bN q a V M) i.toNat).2) 0) (kE 100 101 102 q (aS (λc=>B (c>0)) (bN q a V M) b).1 (aS (λc=>B (c>0)) (bN q a V M) b).2):=by
 have k:=dn o (pI g p)
 have r:∀i,i<=b->bJ (bN q a V M i).1 (bN q a V M i).2=true:=λi hi=>by
  cases i with
  |zero=>exact cz (dn O g) d
  |succ i=>exact cz (dD k O) d
 have s:∀i,i<=b->bJ (aS (λc=>B (c>0)) (bN q a V M) i).1 (aS (λc=>B (c>0)) (bN q a V M) i).2=true:=λi hi=>by
  obtain⟨j,t,e⟩:=Zx (better:=λc=>B (c>0)) (R:=bN q a V M) i
  grind
 have u:∀i,(aS (λc=>B (c>0)) (bN q a V M) (i+1))=match B (bw (Zt (c8 q (a+(i+1)) (jB a V M))) (Zt (da q (a+(i+1)) (jB a V M))) (Zt (aS (λc=>B (c>0)) (bN q a V M) i).1) (Zt (aS (λc=>B (c>0)) (bN q a V M) i).2)>0)with|true=>(c8 q (a+(i+1)) (jB a V M),da q (a+(i+1)) (jB a V M))|false=>aS (λc=>B (c>0)) (bN q a V M) i:=λi=>rfl
 generalize aS (λc=>B (c>0)) (bN q a V M)=Z at*
 have key:=Zu.of (ι:=Nat) iw [fS,cw,cu,bR,je,fP] (bm PP II []) 1000 (c:=aD II 96 12001) (ir:=false) 19 (λi=>i<=b) (λi=>kD 100 101 102 q a b V M (λi=>(Z i.toNat).1) (λi=>(Z i.toNat).2) (i:Int)) (λ_=>kE 100 101 102 q (Z b).1 (Z b).2) (λi=>b-i) (λi=>i+1) 0 A (h_ _) λi hi=>?_
 ·exact key
 have hi:i<=b:=hi
 have v:((i:Int)).toNat=i:=O
 have w:((i:Int)+1).toNat=i+1:=O
 by_cases f:i<b
 ·refine AT q a b V M _ _ _ _ (i:Int) i A f l m n d k ?_ (λh=>?_) (λh=>?_) _ Y
  all_goals grind
 ·have hi:i=b:=by omega
  subst hi
  refine Fo q a i V M _ _ _ _ (i:Int) A ?_ _
  simp
def AY(q)(a)(M)(g:aI 3 q.nw (au q.C)=true)(l:aI 1 q.ng (aR q.G)=true)(b:eU q=true)(m:a<=1000)(n:fA M a):
  Zu PP II false (aD II 96 12001) 18 (kF 100 101 102 q a M (λi=>(aS (λc=>B (c>0)) (br q M) i.toNat).1) (λi=>(aS (λc=>B (c>0)) (br q M) i.toNat).2) 0) (kG 100 101 102 q (aS (λc=>B (c>0)) (br q M) a).1 (aS (λc=>B (c>0)) (br q M) a).2):=by
 have f:=dn m n
 have o:∀i,i<=a->bJ (br q M i).1 (br q M i).2=true:=λi hi=>by
  cases i with
  |zero=>exact cz (k:=0) (W:=λ_=>0) A b
  |succ i=>exact cz (dD f O) b
 have p:∀i,i<=a->bJ (aS (λc=>B (c>0)) (br q M) i).1 (aS (λc=>B (c>0)) (br q M) i).2=true:=λi hi=>by
  obtain⟨j,r,e⟩:=Zx (better:=λc=>B (c>0)) (R:=br q M) i
  grind
 have s:∀i,(aS (λc=>B (c>0)) (br q M) (i+1))=match B (bw (Zt (c8 q (i+1) M)) (Zt (da q (i+1) M)) (Zt (aS (λc=>B (c>0)) (br q M) i).1) (Zt (aS (λc=>B (c>0)) (br q M) i).2)>0)with|true=>(c8 q (i+1) M,da q (i+1) M)|false=>aS (λc=>B (c>0)) (br q M) i:=λi=>rfl
 generalize aS (λc=>B (c>0)) (br q M)=Z at*
 have key:=Zu.of (ι:=Nat) iw [fS,cw,cu,bR,je,fP] (bm PP II []) 1000 (c:=aD II 96 12001) (ir:=false) 18 (λi=>i<=a) (λi=>kF 100 101 102 q a M (λi=>(Z i.toNat).1) (λi=>(Z i.toNat).2) (i:Int)) (λ_=>kG 100 101 102 q (Z a).1 (Z a).2) (λi=>a-i) (λi=>i+1) 0 A (h_ _) λi hi=>?_
 ·exact key
 have hi:i<=a:=hi
 have t:((i:Int)).toNat=i:=O
 have u:((i:Int)+1).toNat=i+1:=O
 by_cases d:i<a
 ·refine xX q a M _ _ _ _ (i:Int) i A d g l b f ?_ (λh=>?_) (λh=>?_) _ Y
  all_goals grind
 ·have hi:i=a:=by omega
  subst hi
  refine CP q i M _ _ _ _ (i:Int) A ?_ _
  simp
end
section
open Go.Sort Go.Shelf Go.Proofs
def G2(x:List UInt8×List UInt8)(σ):A_ σ (.agg [.str x.1,.str x.2]) (.agg [.str x.1,.str x.2]):=⟨rfl,rfl,trivial⟩
def qi(n)(W):((c_ n).all λi=>bt.free (ae W i))=true:=List.all_eq_true.2 λ_ _=>rfl
def jP(W):aM (ae W)=W:=rfl
def Nz{q k L G C}(b:aI 3 q.nw (au q.C)=true)(d:aI 1 q.ng (aR q.G)=true)(e:eU q=true)(f:k<=1000)(g:fA L k):
  af PP II 96 [.agg (aY q),.az k 3 (bi L G C),.fn 97 [] [],.fn 95 [] [],.fn 98 [] [],.fn 99 [] []] HR (.ret (.agg [.str (eO q k L C).1,.str (eO q k L C).2]) HR):=by
 unfold eO
 have a:=G2
 cases n:(c_ k).any C with
 |true=>
  have n0:=CQ n
  have v:=mU C k
  have l:=fR (p:=C) g
  have h:=fR (p:=λi=>!C i) g
  have lp:=CR q k L G C f
  have lp2:=CS q (aP C k) (aP (λi=>!C i) k) (bS C L k) (bQ (aP (λi=>!C i) k) (bS (λi=>!C i) L k)) n0 b d e O l (kP h)
  refine qh (ks:=[fS,cw,cu,bR,mR,fO]) (T:=[(3001,16,pQ 97 98 99 q k L G C (λi=>aP C i.toNat) (λi=>aP (λi=>!C i) i.toNat) (bS C L k) (bS (λi=>!C i) L k) 0,pR 97 98 99 q (aP C k) (aP (λi=>!C i) k) (bS C L k) (bS (λi=>!C i) L k)),(12001,19,kD 97 98 99 q (aP C k) (aP (λi=>!C i) k) (bS C L k) (bQ (aP (λi=>!C i) k) (bS (λi=>!C i) L k)) (λi=>(aS (λc=>B (c<0)) (bN q (aP C k) (bS C L k) (bQ (aP (λi=>!C i) k) (bS (λi=>!C i) L k))) i.toNat).1) (λi=>(aS (λc=>B (c<0)) (bN q (aP C k) (bS C L k) (bQ (aP (λi=>!C i) k) (bS (λi=>!C i) L k))) i.toNat).2) 0,kE 97 98 99 q (aS (λc=>B (c<0)) (bN q (aP C k) (bS C L k) (bQ (aP (λi=>!C i) k) (bS (λi=>!C i) L k))) (aP (λi=>!C i) k)).1 (aS (λc=>B (c<0)) (bN q (aP C k) (bS C L k) (bQ (aP (λi=>!C i) k) (bS (λi=>!C i) L k))) (aP (λi=>!C i) k)).2)]) ?_
  rw[Nw]
  have a1:(bA (aP (λi=>!C i) k) (ae (bS (λi=>!C i) L k))&&m_ (aP (λi=>!C i) k) (aP (λi=>!C i) k)&&b_ (aP (λi=>!C i) k) 4611686018427387904&&true&&true)=true:=by
   rw[dy,ni,eV O];rfl
  have a2:(((c_ (aP C k)).all λi=>bt.free (ae (bS C L k) i))&&B (aP C k<=aP C k))=true:=by rw[qi,bW (dw _)];rfl
  have o:=dn O l
  have z1:aP C (0:Int).toNat=0:=rfl
  have z2:aP (λi=>!C i) (0:Int).toNat=0:=rfl
  have j:aS (λc=>B (c<0)) (bN q (aP C k) (bS C L k) (bQ (aP (λi=>!C i) k) (bS (λi=>!C i) L k))) (0:Int).toNat=(c8 q (aP C k) (bS C L k),da q (aP C k) (bS C L k)):=rfl
  rw[jP,jP,jt b d,rQ,e,oJ,oK]
  simp only[j]
  generalize aS (λc=>B (c<0)) (bN q (aP C k) (bS C L k) (bQ (aP (λi=>!C i) k) (bS (λi=>!C i) L k)))=Z at*
  generalize aP (λi=>!C i) k=r at*
  generalize aP C k=m at*
  have a4:(true&&true&&bA m (ae (bS C L k))&&bX m (bS C L k))=true:=by rw[dy,o];rfl
  have hQ:=a (Z r)
  exact zZ
 |false=>
  have s:∀i,i<k->C i=false:=ZD
  have h:=kP g
  have lp:=AU q k L G f
  have lp2:=AW q k (bQ k L) b d e f h
  have key:af PP II 96 [.agg (aY q),.az k 3 (bi L G λ_=>false),.fn 97 [] [],.fn 95 [] [],.fn 98 [] [],.fn 99 [] []] HR (.ret (.agg [.str (aS (λc=>B (c<0)) (br q (bQ k L)) k).1,.str (aS (λc=>B (c<0)) (br q (bQ k L)) k).2]) HR):=by
   refine qh (ks:=[fS,cw,cu,bR,mR,fO]) (T:=[(3001,16,kB 97 98 99 q k L G 0,kC 97 98 99 q k L),(12001,18,kF 97 98 99 q k (bQ k L) (λi=>(aS (λc=>B (c<0)) (br q (bQ k L)) i.toNat).1) (λi=>(aS (λc=>B (c<0)) (br q (bQ k L)) i.toNat).2) 0,kG 97 98 99 q (aS (λc=>B (c<0)) (br q (bQ k L)) k).1 (aS (λc=>B (c<0)) (br q (bQ k L)) k).2)]) ?_
   rw[Jo]
   have a1:(bA k (ae L)&&m_ k k&&b_ k 4611686018427387904&&true&&true)=true:=by
    rw[dy,ni,eV O];rfl
   have j:aS (λc=>B (c<0)) (br q (bQ k L)) (0:Int).toNat=(c8 q 0 (λ_=>0),da q 0 (λ_=>0)):=rfl
   rw[jP,jt b d,rQ,e,oJ,oK]
   simp only[j]
   generalize aS (λc=>B (c<0)) (br q (bQ k L))=Z at*
   have hQ:=a (Z k)
   exact ZA
  intro c ρ w vs hG t u
  refine key c ρ w vs hG (aU.tQ (show bt.le _ [.agg (aY q),.az k 3 (bi L G C),.fn 97 [] [],.fn 95 [] [],.fn 98 [] [],.fn 99 [] []] [.agg (aY q),.az k 3 (bi L G λ_=>false),.fn 97 [] [],.fn 95 [] [],.fn 98 [] [],.fn 99 [] []]from⟨⟨⟨rfl,rfl,λi hi=>jq _ _ _⟩,⟨rfl,rfl,λi hi=>pF _ _ _⟩,⟨rfl,rfl⟩,⟨rfl,rfl⟩,rfl,rfl,⟨rfl,rfl⟩,trivial⟩,⟨rfl,rfl,λi hi=>⟨⟨rfl,rfl⟩,⟨rfl,rfl⟩,s i hi,trivial⟩⟩,⟨rfl,trivial,trivial⟩,⟨rfl,trivial,trivial⟩,⟨rfl,trivial,trivial⟩,⟨rfl,trivial,trivial⟩,trivial⟩) t) u
def NA{q k L G C}(b:aI 3 q.nw (au q.C)=true)(d:aI 1 q.ng (aR q.G)=true)(e:eU q=true)(f:k<=1000)(g:fA G k):
  af PP II 96 [.agg (aY q),.az k 3 (bi L G C),.fn 100 [] [],.fn 95 [] [],.fn 101 [] [],.fn 102 [] []] HR (.ret (.agg [.str (dQ q k G C).1,.str (dQ q k G C).2]) HR):=by
 unfold dQ
 have a:=G2
 cases n:(c_ k).any C with
 |true=>
  have n0:=CQ n
  have v:=mU C k
  have l:=fR (p:=C) g
  have h:=fR (p:=λi=>!C i) g
  have lp:=CT q k L G C f
  have lp2:=CU q (aP C k) (aP (λi=>!C i) k) (bS C G k) (cK (aP (λi=>!C i) k) (bS (λi=>!C i) G k)) n0 b d e O l (kQ h)
  refine qh (ks:=[fS,cw,cu,bR,je,fP]) (T:=[(3001,16,pQ 100 101 102 q k L G C (λi=>aP C i.toNat) (λi=>aP (λi=>!C i) i.toNat) (bS C G k) (bS (λi=>!C i) G k) 0,pR 100 101 102 q (aP C k) (aP (λi=>!C i) k) (bS C G k) (bS (λi=>!C i) G k)),(12001,19,kD 100 101 102 q (aP C k) (aP (λi=>!C i) k) (bS C G k) (cK (aP (λi=>!C i) k) (bS (λi=>!C i) G k)) (λi=>(aS (λc=>B (c>0)) (bN q (aP C k) (bS C G k) (cK (aP (λi=>!C i) k) (bS (λi=>!C i) G k))) i.toNat).1) (λi=>(aS (λc=>B (c>0)) (bN q (aP C k) (bS C G k) (cK (aP (λi=>!C i) k) (bS (λi=>!C i) G k))) i.toNat).2) 0,kE 100 101 102 q (aS (λc=>B (c>0)) (bN q (aP C k) (bS C G k) (cK (aP (λi=>!C i) k) (bS (λi=>!C i) G k))) (aP (λi=>!C i) k)).1 (aS (λc=>B (c>0)) (bN q (aP C k) (bS C G k) (cK (aP (λi=>!C i) k) (bS (λi=>!C i) G k))) (aP (λi=>!C i) k)).2)]) ?_
  rw[Nx]
  have a1:(bA (aP (λi=>!C i) k) (ae (bS (λi=>!C i) G k))&&m_ (aP (λi=>!C i) k) (aP (λi=>!C i) k)&&b_ (aP (λi=>!C i) k) 4611686018427387904&&true&&true)=true:=by
   rw[dy,ni,eV O];rfl
  have a2:(((c_ (aP C k)).all λi=>bt.free (ae (bS C G k) i))&&B (aP C k<=aP C k))=true:=by rw[qi,bW (dw _)];rfl
  have o:=dn O l
  have z1:aP C (0:Int).toNat=0:=rfl
  have z2:aP (λi=>!C i) (0:Int).toNat=0:=rfl
  have j:aS (λc=>B (c>0)) (bN q (aP C k) (bS C G k) (cK (aP (λi=>!C i) k) (bS (λi=>!C i) G k))) (0:Int).toNat=(c8 q (aP C k) (bS C G k),da q (aP C k) (bS C G k)):=rfl
  rw[jP,jP,jt b d,rQ,e,oJ,oK]
  simp only[j]
  generalize aS (λc=>B (c>0)) (bN q (aP C k) (bS C G k) (cK (aP (λi=>!C i) k) (bS (λi=>!C i) G k)))=Z at*
  generalize aP (λi=>!C i) k=r at*
  generalize aP C k=m at*
  have a4:(true&&true&&bA m (ae (bS C G k))&&bX m (bS C G k))=true:=by rw[dy,o];rfl
  have hQ:=a (Z r)
  exact zZ
 |false=>
  have s:∀i,i<k->C i=false:=ZD
  have h:=kQ g
  have lp:=AX q k L G f
  have lp2:=AY q k (cK k G) b d e f h
  have key:af PP II 96 [.agg (aY q),.az k 3 (bi L G λ_=>false),.fn 100 [] [],.fn 95 [] [],.fn 101 [] [],.fn 102 [] []] HR (.ret (.agg [.str (aS (λc=>B (c>0)) (br q (cK k G)) k).1,.str (aS (λc=>B (c>0)) (br q (cK k G)) k).2]) HR):=by
   refine qh (ks:=[fS,cw,cu,bR,je,fP]) (T:=[(3001,16,kB 100 101 102 q k L G 0,kC 100 101 102 q k G),(12001,18,kF 100 101 102 q k (cK k G) (λi=>(aS (λc=>B (c>0)) (br q (cK k G)) i.toNat).1) (λi=>(aS (λc=>B (c>0)) (br q (cK k G)) i.toNat).2) 0,kG 100 101 102 q (aS (λc=>B (c>0)) (br q (cK k G)) k).1 (aS (λc=>B (c>0)) (br q (cK k G)) k).2)]) ?_
   rw[Jp]
   have a1:(bA k (ae G)&&m_ k k&&b_ k 4611686018427387904&&true&&true)=true:=by
    rw[dy,ni,eV O];rfl
   have j:aS (λc=>B (c>0)) (br q (cK k G)) (0:Int).toNat=(c8 q 0 (λ_=>0),da q 0 (λ_=>0)):=rfl
   rw[jP,jt b d,rQ,e,oJ,oK]
   simp only[j]
   generalize aS (λc=>B (c>0)) (br q (cK k G))=Z at*
   have hQ:=a (Z k)
   exact ZA
  intro c ρ w vs hG t u
  refine key c ρ w vs hG (aU.tQ (show bt.le _ [.agg (aY q),.az k 3 (bi L G C),.fn 100 [] [],.fn 95 [] [],.fn 101 [] [],.fn 102 [] []] [.agg (aY q),.az k 3 (bi L G λ_=>false),.fn 100 [] [],.fn 95 [] [],.fn 101 [] [],.fn 102 [] []]from⟨⟨⟨rfl,rfl,λi hi=>jq _ _ _⟩,⟨rfl,rfl,λi hi=>pF _ _ _⟩,⟨rfl,rfl⟩,⟨rfl,rfl⟩,rfl,rfl,⟨rfl,rfl⟩,trivial⟩,⟨rfl,rfl,λi hi=>⟨⟨rfl,rfl⟩,⟨rfl,rfl⟩,s i hi,trivial⟩⟩,⟨rfl,trivial,trivial⟩,⟨rfl,trivial,trivial⟩,⟨rfl,trivial,trivial⟩,⟨rfl,trivial,trivial⟩,trivial⟩) t) u
end
section
open Go.Sort Go.Shelf Go.Proofs
def lD(k:Nat)(r:Nat->List AV):Bool:=(c_ k).all λi=>match r i with|[.int d_ _,.int d_ _,.bool _]=>true|_=>false
def ka(r:Nat->List AV)(i:Nat):Int:=match r i with|[.int d_ a,_,_]=>a|_=>0
def iF(r:Nat->List AV)(i:Nat):Int:=match r i with|[_,.int d_ a,_]=>a|_=>0
def iG(r:Nat->List AV)(i:Nat):Bool:=match r i with|[_,_,.bool a]=>a|_=>false
def oL{k r}(h:lD k r=true):A_ (λl=>l) (.az k 3 r) (.az k 3 (bi (ka r) (iF r) (iG r))):=⟨rfl,rfl,λi hi=>by
 have:=List.all_eq_true.1 h i (List.mem_range.2 hi)
 unfold bi ka iF iG
 split at this
 ·rename_i a b c d;rw[d];exact⟨⟨rfl,rfl⟩,⟨rfl,rfl⟩,rfl,trivial⟩
 ·cases this⟩
def yY{k W}(h:bX k W=true):fA W k:=(dW h).2
def af.G3{P I f x y i j a b c d H o}(h:af P I f [i,j,a,b,c,d] H o)(k1:A_ (λl=>l) x i)(k2:A_ (λl=>l) y j)(m:bt.le (λl=>l) [a,b,c,d] [a,b,c,d]):af P I f [x,y,a,b,c,d] H o :=
 λq ρ w vs hG s t=>h q ρ w vs hG (aU.tQ (show bt.le _ (x::y::[a,b,c,d]) (i::j::[a,b,c,d])from⟨k1,k2,m⟩) s) t
def SU:aC PP II:=aC.s9 96
 (λX args d=>match args with
  |[.agg cs,.az k 3 r,.fn v [] [],.fn 95 [] [],.fn b [] [],.fn o [] []]=>match toQ cs with
   |some q=>X.ak (gn cs&&eU q&&lD k r&&bX k (ka r)&&bX k (iF r)) (match v,b,o with
    |97,98,99=>d (.agg [.str (eO q k (ka r) (iG r)).1,.str (eO q k (ka r) (iG r)).2])
    |100,101,102=>d (.agg [.str (dQ q k (iF r) (iG r)).1,.str (dQ q k (iF r) (iG r)).2])
    |_,_,_=>X.fail)
   |none=>X.fail
  |_=>X.fail)
 λX sem hX args d h=>by
  split at h
  ·split at h
   ·rename_i q a
    obtain⟨e,c⟩:=hX.ak _ _ h
    simp only[bf]at e
    obtain⟨⟨⟨⟨a1,a2⟩,f⟩,a4⟩,g⟩:=e
    obtain⟨r1,i⟩:=rN a a1
    have j:∀σ (l:List AV),bt.bD σ l=l->bt.bD σ (.agg _::l)= .agg _::l:=λσ l hl=>by
     show AV.bD σ (.agg _)::bt.bD σ l=_
     rw[nU a,hl]
    split at c
    ·exact⟨_,c,λ_=>rfl,λσ=>j σ _ A,(Nz (G:=iF _) r1 i a2 (dW a4).1 (yY a4)).G3 (toQ_le a a1) (oL f) ⟨⟨rfl,trivial,trivial⟩,⟨rfl,trivial,trivial⟩,⟨rfl,trivial,trivial⟩,⟨rfl,trivial,trivial⟩,trivial⟩⟩
    ·exact⟨_,c,λ_=>rfl,λσ=>j σ _ A,(NA (L:=ka _) r1 i a2 (dW g).1 (yY g)).G3 (toQ_le a a1) (oL f) ⟨⟨rfl,trivial,trivial⟩,⟨rfl,trivial,trivial⟩,⟨rfl,trivial,trivial⟩,⟨rfl,trivial,trivial⟩,trivial⟩⟩
    ·exact absurd c hX.fail
   ·exact zR
  ·exact zR
def Js(q)(k)(L G)(C)(Q){b}(e:b=(dQ {nw:=q.nw,C:=λj k=>bV (au q.C j) k,ng:=q.ng,G:=λj=>q.G j,a:=q.a,fl:=q.fl,nu:=q.nu,de:=q.de,top:=q.top} k (iF (bi L G C)) (iG (bi L G C)))){c}(f:c=(gn [i_ q.nw 3 (au q.C),i_ q.ng 1 (aR q.G),f_ d_ q.a,f_ d_ q.fl,e_ q.nu,e_ q.de,f_ d_ q.top]&&eU {nw:=q.nw,C:=λj k=>bV (au q.C j) k,ng:=q.ng,G:=λj=>q.G j,a:=q.a,fl:=q.fl,nu:=q.nu,de:=q.de,top:=q.top}&&lD k (bi L G C)&&bX k (ka (bi L G C))&&bX k (iF (bi L G C)))){d}(g:d=(eO {nw:=q.nw,C:=λj k=>bV (au q.C j) k,ng:=q.ng,G:=λj=>q.G j,a:=q.a,fl:=q.fl,nu:=q.nu,de:=q.de,top:=q.top} k (ka (bi L G C)) (iG (bi L G C)))):(kq [SU] [] 41 [.agg (aY q),.az k 3 (bi L G C)] Q)=(aa c (aa c (aa (B (o_ b=o_ b)&&(B (p_ b=p_ b)&&true)) (Q (AV.bK [t_ [e_ (o_ d),e_ (p_ d)],t_ [e_ (o_ b),e_ (p_ b)]]))))):=by subst_vars;kernel_rfl
def CV(q)(a)(V M):bN (qX q) a V M=bN q a V M:=by
 rfl
def yZ(q)(M):br (qX q) M=br q M:=by
 rfl
def QF(q)(k)(W)(C):eO ⟨q.nw,λj k=>bV (au q.C j) k,q.ng,λj=>q.G j,q.a,q.fl,q.nu,q.de,q.top⟩ k W C=eO q k W C:=by
 rfl
def QG(q)(k)(W)(C):dQ ⟨q.nw,λj k=>bV (au q.C j) k,q.ng,λj=>q.G j,q.a,q.fl,q.nu,q.de,q.top⟩ k W C=dQ q k W C:=by
 rfl
def rS(k)(L G)(C):lD k (bi L G C)=true:=List.all_eq_true.2 λ_ _=>rfl
def wO(L G)(C):ka (bi L G C)=L/\iF (bi L G C)=G/\iG (bi L G C)=C:=⟨rfl,rfl,rfl⟩
def CW(q:Query)(k:Nat)(L G:Nat->Int)(C:Nat->Bool):AV:=.bK [.agg [.str (eO q k L C).1,.str (eO q k L C).2],.agg [.str (dQ q k G C).1,.str (dQ q k G C).2]]
def Jt{q k L G C}(c:aI 3 q.nw (au q.C)=true)(d:aI 1 q.ng (aR q.G)=true)(e:eU q=true)(hL:bX k L=true)(hG:bX k G=true):
  af PP II 41 [.agg (aY q),.az k 3 (bi L G C)] HR (.ret (CW q k L G C) HR):=by
 refine qh (ks:=[SU]) (T:=[]) ?_
 rw[Js _ _ _ _ _ _ A A A,jt c d,rQ,e,rS,(wO L G C).1,(wO L G C).2.1,(wO L G C).2.2,hL,hG]
 refine cC _ _ A (cC _ _ A (cC _ _ zA λσ=>?_))
 have a:=QF q k L C
 have b:=QG q k G C
 exact⟨⟨congrArg o_ a,congrArg p_ a,trivial⟩,⟨congrArg o_ b,congrArg p_ b,trivial⟩,trivial⟩
end
section
open Go.Sort Go.Shelf Go.Proofs
def aX(n:Nat)(K:Nat->Nat->Int)(S:Nat->Nat->List UInt8)(i:Nat):List AV:=[.az n 1 (ae (K i)),.str (S i 0),.str (S i 1),.str (S i 2),.str (S i 3),.str [48],.str [49],.str [48],.str [49]]
def Xr(q:Query)(n:Nat)(K:Nat->Nat->Int)(S:Nat->Nat->List UInt8)(no top:Nat)(a:List (Nat×Zv)):AH:={n:=top,t:=q_ ([(6,.cells dz (.ex 20)),(12,.cells (aY q) (.ty 32)),(13,.rows no 9 (aX n K S) (.ty 44))]++a)}
def t65(m n:Nat)(K:Nat->Nat->Int)(S:Nat->Nat->List UInt8)(no:Nat)(i:Int)(a:List (Nat×AV)):Tr AV:=q_ ([(1,.az m 9 (aX n K S)),(2,.ptr 12 0 0 0),(5,.own 13 no 9),(15,.az m 9 (aX n K S)),(16,.int d_ (z m)),(17,.int d_ i)]++a)
def SV(q:Query)(m n:Nat)(K a:Nat->Nat->Int)(S b:Nat->Nat->List UInt8)(N:Int->Nat)(i:Int):St:={t:=t65 m n K S (N i) i [],nt:=46,H:=Xr q n a b (N i) 14 [],df:=[]}
def SX(q:Query)(n:Nat)(a:Nat->Nat->Int)(b:Nat->Nat->List UInt8)(no:Nat):GE:=.one (.x 0 {t:=q_ [(5,.own 13 no 9)],nt:=46,H:=Xr q n a b no 14 [],df:=[]})
def wP(q:Query)(m n:Nat)(K a:Nat->Nat->Int)(S b:Nat->Nat->List UInt8)(no:Nat)(i:Int)(r:Nat)(c:Int->Int)(j:Int):St:={t:=t65 m n K S no i [(7,.ptr 14 0 0 0),(8,.int d_ (c j)),(21,.az m 9 (aX n K S)),(22,.int d_ (z m)),(23,.int d_ j)],nt:=46,H:=Xr q n a b no 15 [(14,.cells (aX n K S r) (.ty 44))],df:=[]}
def wQ(q:Query)(m n:Nat)(K a:Nat->Nat->Int)(S b:Nat->Nat->List UInt8)(no:Nat)(i:Int)(r:Nat)(c:Int):GE:=.one (.x 2 {t:=t65 m n K S no i [(7,.ptr 14 0 0 0),(8,.int d_ c)],nt:=46,H:=Xr q n a b no 15 [(14,.cells (aX n K S r) (.ty 44))],df:=[]})
def wR(q)(m n)(K b)(S d)(no)(i)(r)(c)(cE)(j)(Q):(kr [j8] [] 42 9001 15 (wP q m n K b S d no i r c) (λ_=>wQ q m n K b S d no i r cE) (λj=>j+1) Q j)=(ah (B (j<z m)) (aa (B (0<=j)&&B (j<z m)) (aa (bJ (S j.toNat 0) (S j.toNat 1)&&bJ (S r 2) (S r 3)) (ah (B (bw (Zt (S j.toNat 0)) (Zt (S j.toNat 1)) (Zt (S r 2)) (Zt (S r 3))>0)) (aa (aN d_ (c j+1)) (aa (aN d_ (j+1)) (zyN n (zyR n (ae (K r)) (zyB (S r 0) (zyB (S r 1) (zyB (S r 2) (zyB (S r 3) (zyB [48] (zyB [49] (zyB [48] (zyB [49] (zyN no (zyR no (aX n b d) (zyN q.nw (zyR q.nw (au q.C) (zyN q.ng (zyR q.ng (aR q.G) (zyI q.a (zyI q.fl (zyB q.nu (zyB q.de (zyI q.top (zyN m (zyR m (aX n K S) (zyI (j+1) (zyN m (zyR m (aX n K S) (zyI i (zyN no (zyN m (zyR m (aX n K S) (zyI (z m) (aH (c j+1) (c (j+1)) (zyI (z m) Q))))))))))))))))))))))))))))))))))) (aa (aN d_ (j+1)) (zyN n (zyR n (ae (K r)) (zyB (S r 0) (zyB (S r 1) (zyB (S r 2) (zyB (S r 3) (zyB [48] (zyB [49] (zyB [48] (zyB [49] (zyN no (zyR no (aX n b d) (zyN q.nw (zyR q.nw (au q.C) (zyN q.ng (zyR q.ng (aR q.G) (zyI q.a (zyI q.fl (zyB q.nu (zyB q.de (zyI q.top (zyN m (zyR m (aX n K S) (zyI (j+1) (zyN m (zyR m (aX n K S) (zyI i (zyN no (zyN m (zyR m (aX n K S) (zyI (z m) (aH (c j) (c (j+1)) (zyI (z m) Q))))))))))))))))))))))))))))))))))))) (zyN n (zyR n (ae (K r)) (zyB (S r 0) (zyB (S r 1) (zyB (S r 2) (zyB (S r 3) (zyB [48] (zyB [49] (zyB [48] (zyB [49] (zyN no (zyR no (aX n b d) (zyN q.nw (zyR q.nw (au q.C) (zyN q.ng (zyR q.ng (aR q.G) (zyI q.a (zyI q.fl (zyB q.nu (zyB q.de (zyI q.top (zyN m (zyR m (aX n K S) (zyN m (zyR m (aX n K S) (zyI i (zyN no (zyI (z m) (aH (c j) cE True)))))))))))))))))))))))))))))):=U
def uh(q)(m n)(K b)(S d)(N)(no)(c)(cE)(i)(Q):(kr [j8] [(9001,15,wP q m n K b S d (N i) i i.toNat c 0,wQ q m n K b S d (N i) i i.toNat cE)] 42 5001 13 (SV q m n K b S d N) (λ_=>SX q n b d no) (λj=>j+1) Q i)=(ah (B (i<z m)) (aa (B (0<=i)&&B (i<z m)) (Zu PP II false (aD II 42 9001) 15 (wP q m n K b S d (N i) i i.toNat c 0) (wQ q m n K b S d (N i) i i.toNat cE)/\zyN n (zyR n (ae (K i.toNat)) (zyB (S i.toNat 0) (zyB (S i.toNat 1) (zyB (S i.toNat 2) (zyB (S i.toNat 3) (zyB [48] (zyB [49] (zyB [48] (zyB [49] (zyN (N i) (zyR (N i) (aX n b d) (zyN q.nw (zyR q.nw (au q.C) (zyN q.ng (zyR q.ng (aR q.G) (zyI q.a (zyI q.fl (zyB q.nu (zyB q.de (zyI q.top (zyN m (zyR m (aX n K S) (zyN m (zyR m (aX n K S) (zyI i (zyN (N i) (zyN m (zyR m (aX n K S) (zyI (z m) (aH 0 (c 0) (zyI (z m) (ah (B (cE<q.top)) (aa (B (N i<=N i)&&true&&true&&B ((N i+1)*152<=140737488355328)&&true) (aa (aN d_ (i+1)) (ax (N i+1) (N (i+1)) (an (N i+1) (λe=>bif b_ e (N i)then aX n b d e else k_ 9 (l_ (0+(e-N i)*9) [i_ n 1 (ae (K i.toNat)),e_ (S i.toNat 0),e_ (S i.toNat 1),e_ (S i.toNat 2),e_ (S i.toNat 3),e_ [48],e_ [49],e_ [48],e_ [49]])) (aX n b d)/\zyN q.nw (zyR q.nw (au q.C) (zyN q.ng (zyR q.ng (aR q.G) (zyI q.a (zyI q.fl (zyB q.nu (zyB q.de (zyI q.top (zyN m (zyR m (aX n K S) (zyN m (zyR m (aX n K S) (zyI (i+1) (ax (N i+1) (N (i+1)) (zyI (z m) Q))))))))))))))))))) (aa (aN d_ (i+1)) (ax (N i) (N (i+1)) (zyR (N i) (aX n b d) (zyN q.nw (zyR q.nw (au q.C) (zyN q.ng (zyR q.ng (aR q.G) (zyI q.a (zyI q.fl (zyB q.nu (zyB q.de (zyI q.top (zyN m (zyR m (aX n K S) (zyN m (zyR m (aX n K S) (zyI (i+1) (ax (N i) (N (i+1)) (zyI (z m) Q))))))))))))))))))))))))))))))))))))))))))))))))))))) (ax (N i) no (zyR (N i) (aX n b d) (zyN q.nw (zyR q.nw (au q.C) (zyN q.ng (zyR q.ng (aR q.G) (zyI q.a (zyI q.fl (zyB q.nu (zyB q.de (zyI q.top (ax (N i) no True))))))))))))):=U
def Uq(q)(m n)(K b)(S c)(N)(no)(Q):(kp [j8] [(5001,13,SV q m n K b S c N 0,SX q n b c no)] 42 [.agg (aY q),.az m 9 (aX n K S)] Q)=(ah (B (q.top=0)) (Q (i_ m 9 (aX n K S))) (Zu PP II false (aD II 42 5001) 13 (SV q m n K b S c N 0) (SX q n b c no)/\ax (N 0) 0 (zyN q.nw (zyR q.nw (au q.C) (zyN q.ng (zyR q.ng (aR q.G) (zyI q.a (zyI q.fl (zyB q.nu (zyB q.de (zyI q.top (zyN m (zyR m (aX n K S) (zyN m (zyR m (aX n K S) (ax (N 0) 0 (zyI (z m) (aa ((g_ (c_ no) λi=>bt.free (aX n b c i))&&B (no<=no)) (Q (i_ no 9 (aX n b c))))))))))))))))))))):=U
end
end
end Go.Sx
