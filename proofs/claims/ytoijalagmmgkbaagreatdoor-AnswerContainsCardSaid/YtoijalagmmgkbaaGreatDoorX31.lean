/- The proof of a statement of the seat, part 31. -/
import Derived.Test.YtoijalagmmgkbaaGreatDoorX30
set_option linter.all false
set_option linter.defProp false
set_option maxRecDepth 1000000
namespace Go.Sx
open Go
open Decidable renaming decide->B
open Int renaming ofNat->z,toNat->a_
open Nat renaming blt->b_,zero_le->h_,beq->n_,ble->s_
open List renaming range->c_,all->g_,getD_eq_getElem?_getD->k_,take->l_,drop->m_,filter_append->o_,length_append->u_,all_eq_true->v_,getElem_mem->w_,range_succ->x_
open Go.IntKind renaming i64->d_
open AV renaming str->e_,int->f_,ab->i_,agg->t_,le->A_
open AH renaming get_set_same->j_,bk->z_
open Prod renaming fst->p_,snd->q_
open Tr renaming ofList->r_
noncomputable section
section
open Go.Sort Go.Shelf Go.Proofs
def Rel.Nv{c:fw}{ρ:Env}{H:AH}{w:World}{l:Nat}{f g:Nat->List AV}{a:Access}(h:Rel c ρ H w)(hl:H.get l= .rows 0 1 f a):Rel c ρ (H.set l (.rows 0 1 g a)) w:=by
 have g:∀j,j≠l->(H.set l (.rows 0 1 g a)).get j=H.get j:=λj e=>z_ _ _ (λd=>e d.symm)
 refine h.alike A (λj b=>?_) (λj=>?_) (λj=>?_)
 ·by_cases e:j=l
  ·subst e
   rw[j_]
   rw[hl]at b
   exact⟨λ_ hi=>absurd hi (lZ _),b.2⟩
  ·rw[g j e];exact b
 ·by_cases e:j=l
  ·subst e;rw[j_,hl];rfl
  ·rw[g j e]
 ·by_cases e:j=l
  ·subst e;rw[j_,hl];exact⟨(λe=>zC),(λe=>zC)⟩
  ·rw[g j e]
def cw:aC PP II where
 f:=150
 spec X args H p _:=match args with
  |[.own l n 1,.fn g [] []]=>match H.get l with
   | .rows m 1 f (.ty 3)=>X.ak (bA n f&&n_ n m&&b_ n 4611686018427387904&&s_ 12 l&&b_ l H.n) (match g with
    |99=>p (.bK []) (H.set l (.rows n 1 (ae (bQ n (aM f))) (.ty 3)))
    |102=>p (.bK []) (H.set l (.rows n 1 (ae (cK n (aM f))) (.ty 3)))
    |_=>X.fail)
   |_=>X.fail
  |_=>X.fail
 ok X sem hX args H p kp h:=by
  split at h
  ·rename_i l n g
   split at h
   ·rename_i m f hl
    obtain⟨u,j⟩:=hX.ak _ _ h
    simp only[bf,Nat.blt_eq]at u
    obtain⟨⟨⟨⟨a1,a2⟩,a4⟩,x⟩,y⟩:=u
    cases dE a2
    have key:∀b:Nat->Int,(0<n->af PP II 150 [.own 12 n 1,.fn g [] []] (lz n (aM f)) (.ret (.bK []) (lz n b)))->af PP II 150 [.own l n 1,.fn g [] []] H (.ret (.bK []) (H.set l (.rows n 1 (ae b) (.ty 3)))):=λb C=>by
     by_cases d:n=0
     ·subst d
      intro c ρ w vs hG q r
      exact AK c ρ w vs hG q (r.Nv hl)
     ·have:=Qn (C O) hl a1 (jX x) y
      intro c ρ w vs hG q r
      have e:∀(o:CO),o= .ret (.bK []) ((H.set l (.rows n 1 (ae (aM f)) (.ty 3))).set l (.rows n 1 (ae b) (.ty 3)))->∀e w',o.post c ρ e w'->(CO.ret (.bK []) (H.set l (.rows n 1 (ae b) (.ty 3)))).post c ρ e w':=by
       rintro _ rfl e w' hp
       cases e with
       |returned v=>
        obtain⟨ρ',hx,s,t⟩:=hp
        refine⟨ρ',hx,s.congr A λi=>?_,t⟩
        by_cases k:i=l
        ·subst k;rw[j_,j_]
        ·rw[z_ _ _ (λa=>k a.symm),z_ _ _ (λa=>k a.symm),z_ _ _ (λa=>k a.symm)]
       |panicked D=>exact hp.elim
       |outgrown=>exact hp.elim
      rcases this c ρ w vs hG q r with⟨k1,k2⟩|⟨v,w',k1,k2⟩
      ·exact .inl ⟨k1,k2.mono (e _ A)⟩
      ·exact .inr ⟨v,w',k1,e _ A _ _ k2⟩
    split at j
    ·exact⟨.ret _ _,j,key _ λd=>I9 d a4⟩
    ·exact⟨.ret _ _,j,key _ λd=>Ja d a4⟩
    ·exact absurd j hX.fail
   ·exact zS
  ·exact zS
def bi(L G:Nat->Int)(C:Nat->Bool)(i:Nat):List AV:=[.int d_ (L i),.int d_ (G i),.bool (C i)]
end
section
open Go.Sort Go.Shelf Go.Proofs
def hQ(n:Nat)(a:List (Nat×ABlk)):AH:={n:=n,t:=r_ ([(0,.cells [.ab 5 2 aA] .ro),(1,.cells [.str [48],.str [49]] .ro),(3,.cells [.map (some 13)] .ro),(6,.cells dz (.ex 20)),(13,.map lS)]++a)}
def hB(q:Query)(n:Nat)(a:List (Nat×ABlk)):AH:=hQ n ([(14,.cells (aY q) (.ty 32)),(15,.cells [.str [],.str []] (.ty 30))]++a)
def ub(a b c:Nat)(d:List (Nat×AV)):Tr AV:=r_ ([(2,.fn a [] []),(3,.fn 95 [] []),(4,.fn b [] []),(5,.fn c [] []),(6,.ptr 14 0 0 0),(12,.ptr 15 0 0 0)]++d)
def pQ(c d e:Nat)(q:Query)(k:Nat)(L G:Nat->Int)(C:Nat->Bool)(a b:Int->Nat)(V M:Nat->Int)(i:Int):St:={t:=ub c d e [(13,.own 16 (a i) 1),(14,.own 17 (b i) 1),(20,.ab k 3 (bi L G C)),(21,.int d_ (z k)),(22,.int d_ i)],nt:=69,H:=hB q 18 [(16,.rows (a i) 1 (ae V) (.ty 3)),(17,.rows (b i) 1 (ae M) (.ty 3))],df:=[]}
def pR(c d e:Nat)(q:Query)(a b:Nat)(V M:Nat->Int):GE:=.one (.x 0 {t:=ub c d e [(13,.own 16 a 1),(14,.own 17 b 1)],nt:=69,H:=hB q 18 [(16,.rows a 1 (ae V) (.ty 3)),(17,.rows b 1 (ae M) (.ty 3))],df:=[]})
def kB(a b c:Nat)(q:Query)(k:Nat)(L G:Nat->Int)(i:Int):St:={t:=ub a b c [(13,.aw),(14,.own 16 i.toNat 1),(20,.ab k 3 (bi L G λ_=>false)),(21,.int d_ (z k)),(22,.int d_ i)],nt:=69,H:=hB q 17 [(16,.rows i.toNat 1 (ae (match a with|97=>L|_=>G)) (.ty 3))],df:=[]}
def kC(a b c:Nat)(q:Query)(k:Nat)(M:Nat->Int):GE:=.one (.x 0 {t:=ub a b c [(13,.aw),(14,.own 16 k 1)],nt:=69,H:=hB q 17 [(16,.rows k 1 (ae M) (.ty 3))],df:=[]})
def kD(e f g:Nat)(q:Query)(d c:Nat)(V M:Nat->Int)(a b:Int->List UInt8)(i:Int):St:={t:=ub e f g [(13,.own 16 d 1),(14,.own 17 c 1),(17,.ptr 18 0 0 0),(49,.int d_ (z c)),(50,.int d_ i)],nt:=69,H:=hB q 19 [(16,.rows d 1 (ae V) .ro),(17,.rows c 1 (ae M) (.ty 3)),(18,.cells [.str (a i),.str (b i)] (.ty 30))],df:=[]}
def kE(c d e:Nat)(q:Query)(a b:List UInt8):GE:=.one (.x 2 {t:=ub c d e [(17,.ptr 18 0 0 0)],nt:=69,H:=hB q 19 [(18,.cells [.str a,.str b] (.ty 30))],df:=[]})
def kF(d e f:Nat)(q:Query)(c:Nat)(M:Nat->Int)(a b:Int->List UInt8)(i:Int):St:={t:=ub d e f [(13,.aw),(14,.own 16 c 1),(17,.ptr 17 0 0 0),(49,.int d_ (z c)),(50,.int d_ i)],nt:=69,H:=hB q 18 [(16,.rows c 1 (ae M) (.ty 3)),(17,.cells [.str (a i),.str (b i)] (.ty 30))],df:=[]}
def kG(c d e:Nat)(q:Query)(a b:List UInt8):GE:=.one (.x 2 {t:=ub c d e [(17,.ptr 17 0 0 0)],nt:=69,H:=hB q 18 [(17,.cells [.str a,.str b] (.ty 30))],df:=[]})
def wK(q:Query)(k:Nat)(L G:Nat->Int)(C:Nat->Bool)(b c:Int->Nat)(V M:Nat->Int)(e f:Nat)(i:Int)(Q:Prop):(kr [fS,cw,cu,bR,mR,fO] [] 96 3001 16 (pQ 97 98 99 q k L G C b c V M) (λ_=>pR 97 98 99 q e f V M) (λi=>i+1) Q i)=(ah (B (i<z k)) (aa (B (0<=i)&&B (i<z k)) (ah (C i.toNat) (aa (B (b i<=b i)&&true&&true&&B ((b i+1)*8<=140737488355328)&&true) (aa (aN d_ (i+1)) (ax (c i) (c (i+1)) (zyR (c i) (ae M) (ax (b i+1) (b (i+1)) (an (b i+1) (λd=>bif b_ d (b i)then ae V d else l_ 1 (m_ (0+(d-b i)*1) [f_ d_ (L i.toNat)])) (ae V)/\zyB [] (zyB [] (zyN q.nw (zyR q.nw (au q.C) (zyN q.ng (zyR q.ng (aR q.G) (zyI q.a (zyI q.fl (zyB q.nu (zyB q.de (zyI q.top (zyB [48] (zyB [49] (zyR 5 aA (zyI (z k) (ax (b i+1) (b (i+1)) (zyN k (zyR k (bi L G C) (zyI (i+1) (ax (c i) (c (i+1)) Q))))))))))))))))))))))))) (aa (B (c i<=c i)&&true&&true&&B ((c i+1)*8<=140737488355328)&&true) (aa (aN d_ (i+1)) (ax (c i+1) (c (i+1)) (an (c i+1) (λd=>bif b_ d (c i)then ae M d else l_ 1 (m_ (0+(d-c i)*1) [f_ d_ (L i.toNat)])) (ae M)/\ax (b i) (b (i+1)) (zyR (b i) (ae V) (zyB [] (zyB [] (zyN q.nw (zyR q.nw (au q.C) (zyN q.ng (zyR q.ng (aR q.G) (zyI q.a (zyI q.fl (zyB q.nu (zyB q.de (zyI q.top (zyB [48] (zyB [49] (zyR 5 aA (zyI (z k) (ax (b i) (b (i+1)) (zyN k (zyR k (bi L G C) (zyI (i+1) (ax (c i+1) (c (i+1)) Q))))))))))))))))))))))))))) (ax (c i) f (zyR (c i) (ae M) (ax (b i) e (zyR (b i) (ae V) (zyB [] (zyB [] (zyN q.nw (zyR q.nw (au q.C) (zyN q.ng (zyR q.ng (aR q.G) (zyI q.a (zyI q.fl (zyB q.nu (zyB q.de (zyI q.top (zyB [48] (zyB [49] (zyR 5 aA (ax (b i) e (ax (c i) f True))))))))))))))))))))):=U
def uc(q:Query)(k:Nat)(L G:Nat->Int)(i:Int)(Q:Prop):(kr [fS,cw,cu,bR,mR,fO] [] 96 3001 16 (kB 97 98 99 q k L G) (λ_=>kC 97 98 99 q k L) (λi=>i+1) Q i)=(ah (B (i<z k)) (aa (B (0<=i)&&B (i<z k)) (aa (B (i.toNat<=i.toNat)&&true&&true&&B ((i.toNat+1)*8<=140737488355328)&&true) (aa (aN d_ (i+1)) (ax (i.toNat+1) (a_ (i+1)) (an (i.toNat+1) (λb=>bif b_ b i.toNat then ae L b else l_ 1 (m_ (0+(b-i.toNat)*1) [f_ d_ (L i.toNat)])) (ae L)/\zyB [] (zyB [] (zyN q.nw (zyR q.nw (au q.C) (zyN q.ng (zyR q.ng (aR q.G) (zyI q.a (zyI q.fl (zyB q.nu (zyB q.de (zyI q.top (zyB [48] (zyB [49] (zyR 5 aA (zyI (z k) (zyN k (zyR k (bi L G λx=>false) (zyI (i+1) (ax (i.toNat+1) (a_ (i+1)) Q))))))))))))))))))))))) (ax i.toNat k (zyR i.toNat (ae L) (zyB [] (zyB [] (zyN q.nw (zyR q.nw (au q.C) (zyN q.ng (zyR q.ng (aR q.G) (zyI q.a (zyI q.fl (zyB q.nu (zyB q.de (zyI q.top (zyB [48] (zyB [49] (zyR 5 aA (ax i.toNat k True)))))))))))))))))):=U
def ud(q:Query)(e f:Nat)(V M:Nat->Int)(c d:Int->List UInt8)(a b:List UInt8)(i:Int)(Q:Prop){g}(m:g=(c8 {nw:=q.nw,C:=λj k=>bV (au q.C j) k,ng:=q.ng,G:=λj=>q.G j,a:=q.a,fl:=q.fl,nu:=q.nu,de:=q.de,top:=q.top} (e+a_ (i+1)) (aM λi=>bif b_ i e then ae (aM (ae V)) i else ae M (i-e)))){h}(n:h=(da {nw:=q.nw,C:=λj k=>bV (au q.C j) k,ng:=q.ng,G:=λj=>q.G j,a:=q.a,fl:=q.fl,nu:=q.nu,de:=q.de,top:=q.top} (e+a_ (i+1)) (aM λi=>bif b_ i e then ae (aM (ae V)) i else ae M (i-e)))){l}(o:l=((B (q.nw=q.nw)&&true&&g_ (c_ q.nw) λi=>B (q.C i 0=q.C i 0)&&(B (q.C i 1=q.C i 1)&&(B (q.C i 2=q.C i 2)&&true)))&&((B (q.ng=q.ng)&&true&&g_ (c_ q.ng) λi=>B (q.G i=q.G i)&&true)&&(B (q.a=q.a)&&(B (q.fl=q.fl)&&(B (q.nu=q.nu)&&(B (q.de=q.de)&&(B (q.top=q.top)&&true)))))))):(kr [fS,cw,cu,bR,mR,fO] [] 96 12001 19 (kD 97 98 99 q e f V M c d) (λ_=>kE 97 98 99 q a b) (λi=>i+1) Q i)=(ah (B (i<z f)) (aa (b_ 0 e&&s_ e e&&bA e (ae V)&&s_ e 1000000000000&&true&&true) (aa l (aa (aN d_ (i+1)) (aa (B (0<=i+1)&&B (i+1<=z f)) (aa (B (0<=i+1)&&B (i+1<=z f)) (aa (B (a_ (i+1)=a_ (i+1))&&true) (aa (B (e<=e)&&B (a_ (i+1)<=f)&&true&&B ((e+a_ (i+1))*8<=140737488355328)&&true) (aa l (aa ((g_ (c_ (e+a_ (i+1))) λi=>bt.free (bif b_ i e then ae (aM (ae V)) i else ae M (i-e)))&&B (e+a_ (i+1)<=e+a_ (i+1))) (aa ((gn [i_ q.nw 3 (au q.C),i_ q.ng 1 (aR q.G),f_ d_ q.a,f_ d_ q.fl,e_ q.nu,e_ q.de,f_ d_ q.top]&&eU {nw:=q.nw,C:=λj k=>bV (au q.C j) k,ng:=q.ng,G:=λj=>q.G j,a:=q.a,fl:=q.fl,nu:=q.nu,de:=q.de,top:=q.top}&&bA (e+a_ (i+1)) λi=>bif b_ i e then ae (aM (ae V)) i else ae M (i-e))&&bX (e+a_ (i+1)) (aM λi=>bif b_ i e then ae (aM (ae V)) i else ae M (i-e))) (aa (bJ g h&&bJ (c i) (d i)) (ah (B (bw (ao g) (ao h) (ao (c i)) (ao (d i))<0)) (aa (aN d_ (i+1)) (bI g (c (i+1)) (bI h (d (i+1)) (zyN f (zyR f (ae M) (zyN e (an e (ae (aM (ae V))) (ae V)/\zyB [] (zyB [] (zyN q.nw (zyR q.nw (au q.C) (zyN q.ng (zyR q.ng (aR q.G) (zyI q.a (zyI q.fl (zyB q.nu (zyB q.de (zyI q.top (zyB [48] (zyB [49] (zyR 5 aA (zyI (z f) (zyN e (zyI (i+1) (zyN f Q)))))))))))))))))))))))) (aa (aN d_ (i+1)) (bI (c i) (c (i+1)) (bI (d i) (d (i+1)) (zyN f (zyR f (ae M) (zyN e (an e (ae (aM (ae V))) (ae V)/\zyB [] (zyB [] (zyN q.nw (zyR q.nw (au q.C) (zyN q.ng (zyR q.ng (aR q.G) (zyI q.a (zyI q.fl (zyB q.nu (zyB q.de (zyI q.top (zyB [48] (zyB [49] (zyR 5 aA (zyI (z f) (zyN e (zyI (i+1) (zyN f Q)))))))))))))))))))))))))))))))))))) (bI (c i) a (bI (d i) b (zyB [] (zyB [] (zyN q.nw (zyR q.nw (au q.C) (zyN q.ng (zyR q.ng (aR q.G) (zyI q.a (zyI q.fl (zyB q.nu (zyB q.de (zyI q.top (zyB [48] (zyB [49] (zyR 5 aA True))))))))))))))))):=by subst_vars;kernel_rfl
def rO(q:Query)(e:Nat)(M:Nat->Int)(c d:Int->List UInt8)(a b:List UInt8)(i:Int)(Q:Prop){f}(l:f=(c8 {nw:=q.nw,C:=λj k=>bV (au q.C j) k,ng:=q.ng,G:=λj=>q.G j,a:=q.a,fl:=q.fl,nu:=q.nu,de:=q.de,top:=q.top} (a_ (i+1)) (aM λi=>bif b_ i 0 then []else ae M (i-0)))){g}(m:g=(da {nw:=q.nw,C:=λj k=>bV (au q.C j) k,ng:=q.ng,G:=λj=>q.G j,a:=q.a,fl:=q.fl,nu:=q.nu,de:=q.de,top:=q.top} (a_ (i+1)) (aM λi=>bif b_ i 0 then []else ae M (i-0)))){h}(n:h=((B (q.nw=q.nw)&&true&&g_ (c_ q.nw) λi=>B (q.C i 0=q.C i 0)&&(B (q.C i 1=q.C i 1)&&(B (q.C i 2=q.C i 2)&&true)))&&((B (q.ng=q.ng)&&true&&g_ (c_ q.ng) λi=>B (q.G i=q.G i)&&true)&&(B (q.a=q.a)&&(B (q.fl=q.fl)&&(B (q.nu=q.nu)&&(B (q.de=q.de)&&(B (q.top=q.top)&&true)))))))):(kr [fS,cw,cu,bR,mR,fO] [] 96 12001 18 (kF 97 98 99 q e M c d) (λ_=>kG 97 98 99 q a b) (λi=>i+1) Q i)=(ah (B (i<z e)) (aa h (aa (aN d_ (i+1)) (aa (B (0<=i+1)&&B (i+1<=z e)) (aa (B (0<=i+1)&&B (i+1<=z e)) (aa (B (a_ (i+1)=a_ (i+1))&&true) (aa (B (a_ (i+1)<=e)&&true&&B ((0+a_ (i+1))*8<=140737488355328)&&true) (aa h (aa ((g_ (c_ (0+a_ (i+1))) λi=>bt.free (bif b_ i 0 then []else ae M (i-0)))&&B (a_ (i+1)<=0+a_ (i+1))) (aa ((gn [i_ q.nw 3 (au q.C),i_ q.ng 1 (aR q.G),f_ d_ q.a,f_ d_ q.fl,e_ q.nu,e_ q.de,f_ d_ q.top]&&eU {nw:=q.nw,C:=λj k=>bV (au q.C j) k,ng:=q.ng,G:=λj=>q.G j,a:=q.a,fl:=q.fl,nu:=q.nu,de:=q.de,top:=q.top}&&bA (a_ (i+1)) λi=>bif b_ i 0 then []else ae M (i-0))&&bX (a_ (i+1)) (aM λi=>bif b_ i 0 then []else ae M (i-0))) (aa (bJ f g&&bJ (c i) (d i)) (ah (B (bw (ao f) (ao g) (ao (c i)) (ao (d i))<0)) (aa (aN d_ (i+1)) (bI f (c (i+1)) (bI g (d (i+1)) (zyN e (zyR e (ae M) (zyB [] (zyB [] (zyN q.nw (zyR q.nw (au q.C) (zyN q.ng (zyR q.ng (aR q.G) (zyI q.a (zyI q.fl (zyB q.nu (zyB q.de (zyI q.top (zyB [48] (zyB [49] (zyR 5 aA (zyI (z e) (zyI (i+1) (zyN e Q)))))))))))))))))))))) (aa (aN d_ (i+1)) (bI (c i) (c (i+1)) (bI (d i) (d (i+1)) (zyN e (zyR e (ae M) (zyB [] (zyB [] (zyN q.nw (zyR q.nw (au q.C) (zyN q.ng (zyR q.ng (aR q.G) (zyI q.a (zyI q.fl (zyB q.nu (zyB q.de (zyI q.top (zyB [48] (zyB [49] (zyR 5 aA (zyI (z e) (zyI (i+1) (zyN e Q))))))))))))))))))))))))))))))))) (bI (c i) a (bI (d i) b (zyB [] (zyB [] (zyN q.nw (zyR q.nw (au q.C) (zyN q.ng (zyR q.ng (aR q.G) (zyI q.a (zyI q.fl (zyB q.nu (zyB q.de (zyI q.top (zyB [48] (zyB [49] (zyR 5 aA True))))))))))))))))):=by subst_vars;kernel_rfl
def Nw(q:Query)(k:Nat)(L G:Nat->Int)(C:Nat->Bool)(g h:Int->Nat)(V M:Nat->Int)(f e:Nat)(c d:Int->List UInt8)(a b:List UInt8)(Q:AV->Prop):(kq [fS,cw,cu,bR,mR,fO] [(3001,16,pQ 97 98 99 q k L G C g h V M 0,pR 97 98 99 q f e V M),(12001,19,kD 97 98 99 q f e V (bQ e M) c d 0,kE 97 98 99 q a b)] 96 [.agg (aY q),.ab k 3 (bi L G C),.fn 97 [] [],.fn 95 [] [],.fn 98 [] [],.fn 99 [] []] Q)=(aE PP II false (aD II 96 3001) 16 (pQ 97 98 99 q k L G C g h V M 0) (pR 97 98 99 q f e V M)/\ax (h 0) 0 (ax (g 0) 0 (zyB [] (zyB [] (zyN q.nw (zyR q.nw (au q.C) (zyN q.ng (zyR q.ng (aR q.G) (zyI q.a (zyI q.fl (zyB q.nu (zyB q.de (zyI q.top (zyB [48] (zyB [49] (zyR 5 aA (zyI (z k) (ax (g 0) 0 (zyN k (zyR k (bi L G C) (ax (h 0) 0 (aa (bA e (ae M)&&n_ e e&&b_ e 4611686018427387904&&true&&true) (aa ((g_ (c_ f) λi=>bt.free (ae V i))&&B (f<=f)) (aa (gn [i_ q.nw 3 (au q.C),i_ q.ng 1 (aR q.G),f_ d_ q.a,f_ d_ q.fl,e_ q.nu,e_ q.de,f_ d_ q.top]&&eU {nw:=q.nw,C:=λj k=>bV (au q.C j) k,ng:=q.ng,G:=λj=>q.G j,a:=q.a,fl:=q.fl,nu:=q.nu,de:=q.de,top:=q.top}&&bA f (ae V)&&bX f (aM (ae V))) (aE PP II false (aD II 96 12001) 19 (kD 97 98 99 q f e V (bQ e M) c d 0) (kE 97 98 99 q a b)/\bI (c8 {nw:=q.nw,C:=λj k=>bV (au q.C j) k,ng:=q.ng,G:=λj=>q.G j,a:=q.a,fl:=q.fl,nu:=q.nu,de:=q.de,top:=q.top} f (aM (ae V))) (c 0) (bI (da {nw:=q.nw,C:=λj k=>bV (au q.C j) k,ng:=q.ng,G:=λj=>q.G j,a:=q.a,fl:=q.fl,nu:=q.nu,de:=q.de,top:=q.top} f (aM (ae V))) (d 0) (zyN e (an e (ae (bQ e (aM (ae M)))) (ae (bQ e M))/\zyN f (zyR f (ae V) (zyB [] (zyB [] (zyN q.nw (zyR q.nw (au q.C) (zyN q.ng (zyR q.ng (aR q.G) (zyI q.a (zyI q.fl (zyB q.nu (zyB q.de (zyI q.top (zyB [48] (zyB [49] (zyR 5 aA (zyI (z e) (zyN f (zyN e (Q (t_ [e_ a,e_ b])))))))))))))))))))))))))))))))))))))))))))))))):=U
def Jo(q:Query)(k:Nat)(L G:Nat->Int)(c d:Int->List UInt8)(a b:List UInt8)(Q:AV->Prop):(kq [fS,cw,cu,bR,mR,fO] [(3001,16,kB 97 98 99 q k L G 0,kC 97 98 99 q k L),(12001,18,kF 97 98 99 q k (bQ k L) c d 0,kG 97 98 99 q a b)] 96 [.agg (aY q),.ab k 3 (bi L G λ_=>false),.fn 97 [] [],.fn 95 [] [],.fn 98 [] [],.fn 99 [] []] Q)=(aE PP II false (aD II 96 3001) 16 (kB 97 98 99 q k L G 0) (kC 97 98 99 q k L)/\zyB [] (zyB [] (zyN q.nw (zyR q.nw (au q.C) (zyN q.ng (zyR q.ng (aR q.G) (zyI q.a (zyI q.fl (zyB q.nu (zyB q.de (zyI q.top (zyB [48] (zyB [49] (zyR 5 aA (zyI (z k) (zyN k (zyR k (bi L G λx=>false) (aa (bA k (ae L)&&n_ k k&&b_ k 4611686018427387904&&true&&true) (aa (gn [i_ q.nw 3 (au q.C),i_ q.ng 1 (aR q.G),f_ d_ q.a,f_ d_ q.fl,e_ q.nu,e_ q.de,f_ d_ q.top]&&eU {nw:=q.nw,C:=λj k=>bV (au q.C j) k,ng:=q.ng,G:=λj=>q.G j,a:=q.a,fl:=q.fl,nu:=q.nu,de:=q.de,top:=q.top}) (aE PP II false (aD II 96 12001) 18 (kF 97 98 99 q k (bQ k L) c d 0) (kG 97 98 99 q a b)/\bI (c8 {nw:=q.nw,C:=λj k=>bV (au q.C j) k,ng:=q.ng,G:=λj=>q.G j,a:=q.a,fl:=q.fl,nu:=q.nu,de:=q.de,top:=q.top} 0 λx=>0) (c 0) (bI (da {nw:=q.nw,C:=λj k=>bV (au q.C j) k,ng:=q.ng,G:=λj=>q.G j,a:=q.a,fl:=q.fl,nu:=q.nu,de:=q.de,top:=q.top} 0 λx=>0) (d 0) (zyN k (an k (ae (bQ k (aM (ae L)))) (ae (bQ k L))/\zyB [] (zyB [] (zyN q.nw (zyR q.nw (au q.C) (zyN q.ng (zyR q.ng (aR q.G) (zyI q.a (zyI q.fl (zyB q.nu (zyB q.de (zyI q.top (zyB [48] (zyB [49] (zyR 5 aA (zyI (z k) (zyN k (Q (t_ [e_ a,e_ b])))))))))))))))))))))))))))))))))))))))):=U
def wL(q:Query)(k:Nat)(L G:Nat->Int)(C:Nat->Bool)(b c:Int->Nat)(V M:Nat->Int)(e f:Nat)(i:Int)(Q:Prop):(kr [fS,cw,cu,bR,je,fP] [] 96 3001 16 (pQ 100 101 102 q k L G C b c V M) (λ_=>pR 100 101 102 q e f V M) (λi=>i+1) Q i)=(ah (B (i<z k)) (aa (B (0<=i)&&B (i<z k)) (ah (C i.toNat) (aa (B (b i<=b i)&&true&&true&&B ((b i+1)*8<=140737488355328)&&true) (aa (aN d_ (i+1)) (ax (c i) (c (i+1)) (zyR (c i) (ae M) (ax (b i+1) (b (i+1)) (an (b i+1) (λd=>bif b_ d (b i)then ae V d else l_ 1 (m_ (0+(d-b i)*1) [f_ d_ (G i.toNat)])) (ae V)/\zyB [] (zyB [] (zyN q.nw (zyR q.nw (au q.C) (zyN q.ng (zyR q.ng (aR q.G) (zyI q.a (zyI q.fl (zyB q.nu (zyB q.de (zyI q.top (zyB [48] (zyB [49] (zyR 5 aA (zyI (z k) (ax (b i+1) (b (i+1)) (zyN k (zyR k (bi L G C) (zyI (i+1) (ax (c i) (c (i+1)) Q))))))))))))))))))))))))) (aa (B (c i<=c i)&&true&&true&&B ((c i+1)*8<=140737488355328)&&true) (aa (aN d_ (i+1)) (ax (c i+1) (c (i+1)) (an (c i+1) (λd=>bif b_ d (c i)then ae M d else l_ 1 (m_ (0+(d-c i)*1) [f_ d_ (G i.toNat)])) (ae M)/\ax (b i) (b (i+1)) (zyR (b i) (ae V) (zyB [] (zyB [] (zyN q.nw (zyR q.nw (au q.C) (zyN q.ng (zyR q.ng (aR q.G) (zyI q.a (zyI q.fl (zyB q.nu (zyB q.de (zyI q.top (zyB [48] (zyB [49] (zyR 5 aA (zyI (z k) (ax (b i) (b (i+1)) (zyN k (zyR k (bi L G C) (zyI (i+1) (ax (c i+1) (c (i+1)) Q))))))))))))))))))))))))))) (ax (c i) f (zyR (c i) (ae M) (ax (b i) e (zyR (b i) (ae V) (zyB [] (zyB [] (zyN q.nw (zyR q.nw (au q.C) (zyN q.ng (zyR q.ng (aR q.G) (zyI q.a (zyI q.fl (zyB q.nu (zyB q.de (zyI q.top (zyB [48] (zyB [49] (zyR 5 aA (ax (b i) e (ax (c i) f True))))))))))))))))))))):=U
def ue(q:Query)(k:Nat)(L G:Nat->Int)(i:Int)(Q:Prop):(kr [fS,cw,cu,bR,je,fP] [] 96 3001 16 (kB 100 101 102 q k L G) (λ_=>kC 100 101 102 q k G) (λi=>i+1) Q i)=(ah (B (i<z k)) (aa (B (0<=i)&&B (i<z k)) (aa (B (i.toNat<=i.toNat)&&true&&true&&B ((i.toNat+1)*8<=140737488355328)&&true) (aa (aN d_ (i+1)) (ax (i.toNat+1) (a_ (i+1)) (an (i.toNat+1) (λb=>bif b_ b i.toNat then ae G b else l_ 1 (m_ (0+(b-i.toNat)*1) [f_ d_ (G i.toNat)])) (ae G)/\zyB [] (zyB [] (zyN q.nw (zyR q.nw (au q.C) (zyN q.ng (zyR q.ng (aR q.G) (zyI q.a (zyI q.fl (zyB q.nu (zyB q.de (zyI q.top (zyB [48] (zyB [49] (zyR 5 aA (zyI (z k) (zyN k (zyR k (bi L G λx=>false) (zyI (i+1) (ax (i.toNat+1) (a_ (i+1)) Q))))))))))))))))))))))) (ax i.toNat k (zyR i.toNat (ae G) (zyB [] (zyB [] (zyN q.nw (zyR q.nw (au q.C) (zyN q.ng (zyR q.ng (aR q.G) (zyI q.a (zyI q.fl (zyB q.nu (zyB q.de (zyI q.top (zyB [48] (zyB [49] (zyR 5 aA (ax i.toNat k True)))))))))))))))))):=U
def uf(q:Query)(e f:Nat)(V M:Nat->Int)(c d:Int->List UInt8)(a b:List UInt8)(i:Int)(Q:Prop){g}(m:g=(c8 {nw:=q.nw,C:=λj k=>bV (au q.C j) k,ng:=q.ng,G:=λj=>q.G j,a:=q.a,fl:=q.fl,nu:=q.nu,de:=q.de,top:=q.top} (e+a_ (i+1)) (aM λi=>bif b_ i e then ae (aM (ae V)) i else ae M (i-e)))){h}(n:h=(da {nw:=q.nw,C:=λj k=>bV (au q.C j) k,ng:=q.ng,G:=λj=>q.G j,a:=q.a,fl:=q.fl,nu:=q.nu,de:=q.de,top:=q.top} (e+a_ (i+1)) (aM λi=>bif b_ i e then ae (aM (ae V)) i else ae M (i-e)))){l}(o:l=((B (q.nw=q.nw)&&true&&g_ (c_ q.nw) λi=>B (q.C i 0=q.C i 0)&&(B (q.C i 1=q.C i 1)&&(B (q.C i 2=q.C i 2)&&true)))&&((B (q.ng=q.ng)&&true&&g_ (c_ q.ng) λi=>B (q.G i=q.G i)&&true)&&(B (q.a=q.a)&&(B (q.fl=q.fl)&&(B (q.nu=q.nu)&&(B (q.de=q.de)&&(B (q.top=q.top)&&true)))))))):(kr [fS,cw,cu,bR,je,fP] [] 96 12001 19 (kD 100 101 102 q e f V M c d) (λ_=>kE 100 101 102 q a b) (λi=>i+1) Q i)=(ah (B (i<z f)) (aa (b_ 0 e&&s_ e e&&bA e (ae V)&&s_ e 1000000000000&&true&&true) (aa l (aa (aN d_ (i+1)) (aa (B (0<=i+1)&&B (i+1<=z f)) (aa (B (0<=i+1)&&B (i+1<=z f)) (aa (B (a_ (i+1)=a_ (i+1))&&true) (aa (B (e<=e)&&B (a_ (i+1)<=f)&&true&&B ((e+a_ (i+1))*8<=140737488355328)&&true) (aa l (aa ((g_ (c_ (e+a_ (i+1))) λi=>bt.free (bif b_ i e then ae (aM (ae V)) i else ae M (i-e)))&&B (e+a_ (i+1)<=e+a_ (i+1))) (aa ((gn [i_ q.nw 3 (au q.C),i_ q.ng 1 (aR q.G),f_ d_ q.a,f_ d_ q.fl,e_ q.nu,e_ q.de,f_ d_ q.top]&&eU {nw:=q.nw,C:=λj k=>bV (au q.C j) k,ng:=q.ng,G:=λj=>q.G j,a:=q.a,fl:=q.fl,nu:=q.nu,de:=q.de,top:=q.top}&&bA (e+a_ (i+1)) λi=>bif b_ i e then ae (aM (ae V)) i else ae M (i-e))&&bX (e+a_ (i+1)) (aM λi=>bif b_ i e then ae (aM (ae V)) i else ae M (i-e))) (aa (bJ g h&&bJ (c i) (d i)) (ah (B (bw (ao g) (ao h) (ao (c i)) (ao (d i))>0)) (aa (aN d_ (i+1)) (bI g (c (i+1)) (bI h (d (i+1)) (zyN f (zyR f (ae M) (zyN e (an e (ae (aM (ae V))) (ae V)/\zyB [] (zyB [] (zyN q.nw (zyR q.nw (au q.C) (zyN q.ng (zyR q.ng (aR q.G) (zyI q.a (zyI q.fl (zyB q.nu (zyB q.de (zyI q.top (zyB [48] (zyB [49] (zyR 5 aA (zyI (z f) (zyN e (zyI (i+1) (zyN f Q)))))))))))))))))))))))) (aa (aN d_ (i+1)) (bI (c i) (c (i+1)) (bI (d i) (d (i+1)) (zyN f (zyR f (ae M) (zyN e (an e (ae (aM (ae V))) (ae V)/\zyB [] (zyB [] (zyN q.nw (zyR q.nw (au q.C) (zyN q.ng (zyR q.ng (aR q.G) (zyI q.a (zyI q.fl (zyB q.nu (zyB q.de (zyI q.top (zyB [48] (zyB [49] (zyR 5 aA (zyI (z f) (zyN e (zyI (i+1) (zyN f Q)))))))))))))))))))))))))))))))))))) (bI (c i) a (bI (d i) b (zyB [] (zyB [] (zyN q.nw (zyR q.nw (au q.C) (zyN q.ng (zyR q.ng (aR q.G) (zyI q.a (zyI q.fl (zyB q.nu (zyB q.de (zyI q.top (zyB [48] (zyB [49] (zyR 5 aA True))))))))))))))))):=by subst_vars;kernel_rfl
def rP(q:Query)(e:Nat)(M:Nat->Int)(c d:Int->List UInt8)(a b:List UInt8)(i:Int)(Q:Prop){f}(l:f=(c8 {nw:=q.nw,C:=λj k=>bV (au q.C j) k,ng:=q.ng,G:=λj=>q.G j,a:=q.a,fl:=q.fl,nu:=q.nu,de:=q.de,top:=q.top} (a_ (i+1)) (aM λi=>bif b_ i 0 then []else ae M (i-0)))){g}(m:g=(da {nw:=q.nw,C:=λj k=>bV (au q.C j) k,ng:=q.ng,G:=λj=>q.G j,a:=q.a,fl:=q.fl,nu:=q.nu,de:=q.de,top:=q.top} (a_ (i+1)) (aM λi=>bif b_ i 0 then []else ae M (i-0)))){h}(n:h=((B (q.nw=q.nw)&&true&&g_ (c_ q.nw) λi=>B (q.C i 0=q.C i 0)&&(B (q.C i 1=q.C i 1)&&(B (q.C i 2=q.C i 2)&&true)))&&((B (q.ng=q.ng)&&true&&g_ (c_ q.ng) λi=>B (q.G i=q.G i)&&true)&&(B (q.a=q.a)&&(B (q.fl=q.fl)&&(B (q.nu=q.nu)&&(B (q.de=q.de)&&(B (q.top=q.top)&&true)))))))):(kr [fS,cw,cu,bR,je,fP] [] 96 12001 18 (kF 100 101 102 q e M c d) (λ_=>kG 100 101 102 q a b) (λi=>i+1) Q i)=(ah (B (i<z e)) (aa h (aa (aN d_ (i+1)) (aa (B (0<=i+1)&&B (i+1<=z e)) (aa (B (0<=i+1)&&B (i+1<=z e)) (aa (B (a_ (i+1)=a_ (i+1))&&true) (aa (B (a_ (i+1)<=e)&&true&&B ((0+a_ (i+1))*8<=140737488355328)&&true) (aa h (aa ((g_ (c_ (0+a_ (i+1))) λi=>bt.free (bif b_ i 0 then []else ae M (i-0)))&&B (a_ (i+1)<=0+a_ (i+1))) (aa ((gn [i_ q.nw 3 (au q.C),i_ q.ng 1 (aR q.G),f_ d_ q.a,f_ d_ q.fl,e_ q.nu,e_ q.de,f_ d_ q.top]&&eU {nw:=q.nw,C:=λj k=>bV (au q.C j) k,ng:=q.ng,G:=λj=>q.G j,a:=q.a,fl:=q.fl,nu:=q.nu,de:=q.de,top:=q.top}&&bA (a_ (i+1)) λi=>bif b_ i 0 then []else ae M (i-0))&&bX (a_ (i+1)) (aM λi=>bif b_ i 0 then []else ae M (i-0))) (aa (bJ f g&&bJ (c i) (d i)) (ah (B (bw (ao f) (ao g) (ao (c i)) (ao (d i))>0)) (aa (aN d_ (i+1)) (bI f (c (i+1)) (bI g (d (i+1)) (zyN e (zyR e (ae M) (zyB [] (zyB [] (zyN q.nw (zyR q.nw (au q.C) (zyN q.ng (zyR q.ng (aR q.G) (zyI q.a (zyI q.fl (zyB q.nu (zyB q.de (zyI q.top (zyB [48] (zyB [49] (zyR 5 aA (zyI (z e) (zyI (i+1) (zyN e Q)))))))))))))))))))))) (aa (aN d_ (i+1)) (bI (c i) (c (i+1)) (bI (d i) (d (i+1)) (zyN e (zyR e (ae M) (zyB [] (zyB [] (zyN q.nw (zyR q.nw (au q.C) (zyN q.ng (zyR q.ng (aR q.G) (zyI q.a (zyI q.fl (zyB q.nu (zyB q.de (zyI q.top (zyB [48] (zyB [49] (zyR 5 aA (zyI (z e) (zyI (i+1) (zyN e Q))))))))))))))))))))))))))))))))) (bI (c i) a (bI (d i) b (zyB [] (zyB [] (zyN q.nw (zyR q.nw (au q.C) (zyN q.ng (zyR q.ng (aR q.G) (zyI q.a (zyI q.fl (zyB q.nu (zyB q.de (zyI q.top (zyB [48] (zyB [49] (zyR 5 aA True))))))))))))))))):=by subst_vars;kernel_rfl
def Nx(q:Query)(k:Nat)(L G:Nat->Int)(C:Nat->Bool)(g h:Int->Nat)(V M:Nat->Int)(f e:Nat)(c d:Int->List UInt8)(a b:List UInt8)(Q:AV->Prop):(kq [fS,cw,cu,bR,je,fP] [(3001,16,pQ 100 101 102 q k L G C g h V M 0,pR 100 101 102 q f e V M),(12001,19,kD 100 101 102 q f e V (cK e M) c d 0,kE 100 101 102 q a b)] 96 [.agg (aY q),.ab k 3 (bi L G C),.fn 100 [] [],.fn 95 [] [],.fn 101 [] [],.fn 102 [] []] Q)=(aE PP II false (aD II 96 3001) 16 (pQ 100 101 102 q k L G C g h V M 0) (pR 100 101 102 q f e V M)/\ax (h 0) 0 (ax (g 0) 0 (zyB [] (zyB [] (zyN q.nw (zyR q.nw (au q.C) (zyN q.ng (zyR q.ng (aR q.G) (zyI q.a (zyI q.fl (zyB q.nu (zyB q.de (zyI q.top (zyB [48] (zyB [49] (zyR 5 aA (zyI (z k) (ax (g 0) 0 (zyN k (zyR k (bi L G C) (ax (h 0) 0 (aa (bA e (ae M)&&n_ e e&&b_ e 4611686018427387904&&true&&true) (aa ((g_ (c_ f) λi=>bt.free (ae V i))&&B (f<=f)) (aa (gn [i_ q.nw 3 (au q.C),i_ q.ng 1 (aR q.G),f_ d_ q.a,f_ d_ q.fl,e_ q.nu,e_ q.de,f_ d_ q.top]&&eU {nw:=q.nw,C:=λj k=>bV (au q.C j) k,ng:=q.ng,G:=λj=>q.G j,a:=q.a,fl:=q.fl,nu:=q.nu,de:=q.de,top:=q.top}&&bA f (ae V)&&bX f (aM (ae V))) (aE PP II false (aD II 96 12001) 19 (kD 100 101 102 q f e V (cK e M) c d 0) (kE 100 101 102 q a b)/\bI (c8 {nw:=q.nw,C:=λj k=>bV (au q.C j) k,ng:=q.ng,G:=λj=>q.G j,a:=q.a,fl:=q.fl,nu:=q.nu,de:=q.de,top:=q.top} f (aM (ae V))) (c 0) (bI (da {nw:=q.nw,C:=λj k=>bV (au q.C j) k,ng:=q.ng,G:=λj=>q.G j,a:=q.a,fl:=q.fl,nu:=q.nu,de:=q.de,top:=q.top} f (aM (ae V))) (d 0) (zyN e (an e (ae (cK e (aM (ae M)))) (ae (cK e M))/\zyN f (zyR f (ae V) (zyB [] (zyB [] (zyN q.nw (zyR q.nw (au q.C) (zyN q.ng (zyR q.ng (aR q.G) (zyI q.a (zyI q.fl (zyB q.nu (zyB q.de (zyI q.top (zyB [48] (zyB [49] (zyR 5 aA (zyI (z e) (zyN f (zyN e (Q (t_ [e_ a,e_ b])))))))))))))))))))))))))))))))))))))))))))))))):=U
def Jp(q:Query)(k:Nat)(L G:Nat->Int)(c d:Int->List UInt8)(a b:List UInt8)(Q:AV->Prop):(kq [fS,cw,cu,bR,je,fP] [(3001,16,kB 100 101 102 q k L G 0,kC 100 101 102 q k G),(12001,18,kF 100 101 102 q k (cK k G) c d 0,kG 100 101 102 q a b)] 96 [.agg (aY q),.ab k 3 (bi L G λ_=>false),.fn 100 [] [],.fn 95 [] [],.fn 101 [] [],.fn 102 [] []] Q)=(aE PP II false (aD II 96 3001) 16 (kB 100 101 102 q k L G 0) (kC 100 101 102 q k G)/\zyB [] (zyB [] (zyN q.nw (zyR q.nw (au q.C) (zyN q.ng (zyR q.ng (aR q.G) (zyI q.a (zyI q.fl (zyB q.nu (zyB q.de (zyI q.top (zyB [48] (zyB [49] (zyR 5 aA (zyI (z k) (zyN k (zyR k (bi L G λx=>false) (aa (bA k (ae G)&&n_ k k&&b_ k 4611686018427387904&&true&&true) (aa (gn [i_ q.nw 3 (au q.C),i_ q.ng 1 (aR q.G),f_ d_ q.a,f_ d_ q.fl,e_ q.nu,e_ q.de,f_ d_ q.top]&&eU {nw:=q.nw,C:=λj k=>bV (au q.C j) k,ng:=q.ng,G:=λj=>q.G j,a:=q.a,fl:=q.fl,nu:=q.nu,de:=q.de,top:=q.top}) (aE PP II false (aD II 96 12001) 18 (kF 100 101 102 q k (cK k G) c d 0) (kG 100 101 102 q a b)/\bI (c8 {nw:=q.nw,C:=λj k=>bV (au q.C j) k,ng:=q.ng,G:=λj=>q.G j,a:=q.a,fl:=q.fl,nu:=q.nu,de:=q.de,top:=q.top} 0 λx=>0) (c 0) (bI (da {nw:=q.nw,C:=λj k=>bV (au q.C j) k,ng:=q.ng,G:=λj=>q.G j,a:=q.a,fl:=q.fl,nu:=q.nu,de:=q.de,top:=q.top} 0 λx=>0) (d 0) (zyN k (an k (ae (cK k (aM (ae G)))) (ae (cK k G))/\zyB [] (zyB [] (zyN q.nw (zyR q.nw (au q.C) (zyN q.ng (zyR q.ng (aR q.G) (zyI q.a (zyI q.fl (zyB q.nu (zyB q.de (zyI q.top (zyB [48] (zyB [49] (zyR 5 aA (zyI (z k) (zyN k (Q (t_ [e_ a,e_ b])))))))))))))))))))))))))))))))))))))))):=U
end
section
open Go.Sort Go.Shelf Go.Proofs
def dP(n:Nat)(L G:Nat->Int)(C:Nat->Bool):an n (bi L G C) (bi L G C):=λ_ _ _=>⟨⟨rfl,rfl⟩,⟨rfl,rfl⟩,rfl,trivial⟩
def jB(n:Nat)(V M:Nat->Int)(i:Nat):Int:=bif b_ i n then V i else M (i-n)
def yW(n:Nat)(V M:Nat->Int):(aM λi=>bif b_ i n then ae (aM (ae V)) i else ae M (i-n))=jB n V M:=by
 funext i
 show(match(bif b_ i n then ae (aM (ae V)) i else ae M (i-n))with|[.int d_ n]=>n|_=>0)=(bif b_ i n then V i else M (i-n))
 cases b_ i n<;>rfl
def wM(m n:Nat)(V M:Nat->Int):bA m (λi=>bif b_ i n then ae (aM (ae V)) i else ae M (i-n))=true:=List.all_eq_true.2 λi _=>by
 show(match(bif b_ i n then ae (aM (ae V)) i else ae M (i-n))with|[.int d_ _]=>true|_=>false)=true
 cases b_ i n<;>rfl
def CK(m n:Nat)(V M:Nat->Int):((c_ m).all λi=>bt.free (bif b_ i n then ae (aM (ae V)) i else ae M (i-n)))=true:=List.all_eq_true.2 λi _=>by
 show bt.free (bif b_ i n then ae (aM (ae V)) i else ae M (i-n))=true
 cases b_ i n<;>rfl
def wN(M:Nat->Int):(aM λi=>bif b_ i 0 then []else ae M (i-0))=M:=by
 funext i
 show(match(bif b_ i 0 then []else ae M (i-0))with|[.int d_ n]=>n|_=>0)=M i
 rw[js (lZ i)];rfl
def ug(m:Nat)(M:Nat->Int):bA m (λi=>bif b_ i 0 then []else ae M (i-0))=true:=List.all_eq_true.2 λi _=>by
 show(match(bif b_ i 0 then []else ae M (i-0))with|[.int d_ _]=>true|_=>false)=true
 rw[js (lZ i)];rfl
def yX(m:Nat)(M:Nat->Int):((c_ m).all λi=>bt.free (bif b_ i 0 then []else ae M (i-0)))=true:=List.all_eq_true.2 λi _=>by
 show bt.free (bif b_ i 0 then []else ae M (i-0))=true
 rw[js (lZ i)];rfl
def dD{m n:Nat}{W:Nat->Int}(h:bX n W=true)(d:m<=n):bX m W=true:=by
 obtain⟨e,a⟩:=dW h
 unfold bX
 rw[kV O,Bool.true_and,v_]
 intro i hi
 obtain⟨b,c⟩:=a i (by have:=List.mem_range.1 hi;omega)
 simp only[bf,bn]
 exact⟨b,c⟩
abbrev qX(q:Query):Query:=⟨q.nw,λj k=>bV (au q.C j) k,q.ng,λj=>q.G j,q.a,q.fl,q.nu,q.de,q.top⟩
def oJ(q:Query)(n:Nat)(W:Nat->Int):c8 ⟨q.nw,λj k=>bV (au q.C j) k,q.ng,λj=>q.G j,q.a,q.fl,q.nu,q.de,q.top⟩ n W=c8 q n W:=rfl
def oK(q:Query)(n:Nat)(W:Nat->Int):da ⟨q.nw,λj k=>bV (au q.C j) k,q.ng,λj=>q.G j,q.a,q.fl,q.nu,q.de,q.top⟩ n W=da q n W:=rfl
def rQ(q:Query):eU ⟨q.nw,λj k=>bV (au q.C j) k,q.ng,λj=>q.G j,q.a,q.fl,q.nu,q.de,q.top⟩=eU q:=rfl
def jt{q:Query}(b:aI 3 q.nw (au q.C)=true)(c:aI 1 q.ng (aR q.G)=true):gn [.ab q.nw 3 (au q.C),.ab q.ng 1 (aR q.G),.int d_ q.a,.int d_ q.fl,.str q.nu,.str q.de,.int d_ q.top]=true:=by
 show(aI 3 q.nw (au q.C)&&aI 1 q.ng (aR q.G))=true
 rw[b,c];rfl
def G1(q:Query):((B (q.nw=q.nw)&&true&&(c_ q.nw).all λi=>B (q.C i 0=q.C i 0)&&(B (q.C i 1=q.C i 1)&&(B (q.C i 2=q.C i 2)&&true)))&&((B (q.ng=q.ng)&&true&&(c_ q.ng).all λi=>B (q.G i=q.G i)&&true)&&(B (q.a=q.a)&&(B (q.fl=q.fl)&&(B (q.nu=q.nu)&&(B (q.de=q.de)&&(B (q.top=q.top)&&true)))))))=true:=zB
def CL(q:Query)(k:Nat)(L G:Nat->Int)(C:Nat->Bool)(a b:Int->Nat)(V M:Nat->Int)(e f:Nat)(i:Int)(m:Nat)(hi:i=(m:Int))(l:m<k)(n:k<=1000)(o:a i<=1000)(p:b i<=1000)
  (ht:C m=true->a (i+1)=a i+1/\V (a i)=L m/\b (i+1)=b i) (g:C m=false->b (i+1)=b i+1/\M (b i)=L m/\a (i+1)=a i) (Q:Prop) (hQ:Q):
  kr [fS,cw,cu,bR,mR,fO] [] 96 3001 16 (pQ 97 98 99 q k L G C a b V M) (λ_=>pR 97 98 99 q e f V M) (λi=>i+1) Q i:=by
 rw[wK]
 have j:a_ i=m:=O
 have r:z k=(k:Int):=rfl
 rw[j]
 have c:aN d_ (i+1)=true:=aq O O
 refine Zg (λ_=>?_) λh=>absurd h O
 refine cC _ _ zF ?_
 refine Zh (λh=>?_) λh=>?_
 ·obtain⟨k1,d,k2⟩:=ht h
  have k1:=k1.symm
  have k2:=k2.symm
  have rows:=ey V (a i) (L m) d.symm
  refine cC _ _ (by rw[bW (dw (a i)),bW (O:(a i+1)*8<=140737488355328)];rfl) (cC _ _ c ?_)
  exact zV
 ·obtain⟨k1,d,k2⟩:=g h
  have k1:=k1.symm
  have k2:=k2.symm
  have rows:=ey M (b i) (L m) d.symm
  refine cC _ _ (by rw[bW (dw (b i)),bW (O:(b i+1)*8<=140737488355328)];rfl) (cC _ _ c ?_)
  exact zV
def Jq(q:Query)(k:Nat)(L G:Nat->Int)(C:Nat->Bool)(a b:Int->Nat)(V M:Nat->Int)(c d:Nat)(i:Int)(hi:i=(k:Int))(k1:a i=c)(k2:b i=d)(Q:Prop):
  kr [fS,cw,cu,bR,mR,fO] [] 96 3001 16 (pQ 97 98 99 q k L G C a b V M) (λ_=>pR 97 98 99 q c d V M) (λi=>i+1) Q i:=by
 rw[wK]
 have e:z k=(k:Int):=rfl
 have hQ:=trivial
 have rows:=trivial
 refine Zg (λh=>absurd h O) λ_=>?_
 exact zV
def AQ(q:Query)(k:Nat)(L G:Nat->Int)(i:Int)(m:Nat)(hi:i=(m:Int))(d:m<k)(e:k<=1000)(Q:Prop)(hQ:Q):
  kr [fS,cw,cu,bR,mR,fO] [] 96 3001 16 (kB 97 98 99 q k L G) (λ_=>kC 97 98 99 q k L) (λi=>i+1) Q i:=by
 rw[uc]
 have b:a_ i=m:=O
 have c:a_ (i+1)=m+1:=O
 have f:z k=(k:Int):=rfl
 rw[b,c]
 have a:aN d_ (i+1)=true:=aq O O
 have k1:=trivial
 have k2:=trivial
 have rows:=ey L m (L m) A
 refine Zg (λ_=>?_) λh=>absurd h O
 refine cC _ _ zF (cC _ _ (by rw[bW (dw m),bW (O:(m+1)*8<=140737488355328)];rfl) (cC _ _ a ?_))
 exact zV
def Fk(q:Query)(k:Nat)(L G:Nat->Int)(i:Int)(hi:i=(k:Int))(Q:Prop):
  kr [fS,cw,cu,bR,mR,fO] [] 96 3001 16 (kB 97 98 99 q k L G) (λ_=>kC 97 98 99 q k L) (λi=>i+1) Q i:=by
 rw[uc]
 have a:z k=(k:Int):=rfl
 have k1:a_ i=k:=O
 have k2:=trivial
 have hQ:=trivial
 have rows:=trivial
 rw[k1]
 refine Zg (λh=>absurd h O) λ_=>?_
 exact zV
def CM(q:Query)(k:Nat)(L G:Nat->Int)(C:Nat->Bool)(a b:Int->Nat)(V M:Nat->Int)(e f:Nat)(i:Int)(m:Nat)(hi:i=(m:Int))(l:m<k)(n:k<=1000)(o:a i<=1000)(p:b i<=1000)
  (ht:C m=true->a (i+1)=a i+1/\V (a i)=G m/\b (i+1)=b i) (g:C m=false->b (i+1)=b i+1/\M (b i)=G m/\a (i+1)=a i) (Q:Prop) (hQ:Q):
  kr [fS,cw,cu,bR,je,fP] [] 96 3001 16 (pQ 100 101 102 q k L G C a b V M) (λ_=>pR 100 101 102 q e f V M) (λi=>i+1) Q i:=by
 rw[wL]
 have j:a_ i=m:=O
 have r:z k=(k:Int):=rfl
 rw[j]
 have c:aN d_ (i+1)=true:=aq O O
 refine Zg (λ_=>?_) λh=>absurd h O
 refine cC _ _ zF ?_
 refine Zh (λh=>?_) λh=>?_
 ·obtain⟨k1,d,k2⟩:=ht h
  have k1:=k1.symm
  have k2:=k2.symm
  have rows:=ey V (a i) (G m) d.symm
  refine cC _ _ (by rw[bW (dw (a i)),bW (O:(a i+1)*8<=140737488355328)];rfl) (cC _ _ c ?_)
  exact zV
 ·obtain⟨k1,d,k2⟩:=g h
  have k1:=k1.symm
  have k2:=k2.symm
  have rows:=ey M (b i) (G m) d.symm
  refine cC _ _ (by rw[bW (dw (b i)),bW (O:(b i+1)*8<=140737488355328)];rfl) (cC _ _ c ?_)
  exact zV
def Jr(q:Query)(k:Nat)(L G:Nat->Int)(C:Nat->Bool)(a b:Int->Nat)(V M:Nat->Int)(c d:Nat)(i:Int)(hi:i=(k:Int))(k1:a i=c)(k2:b i=d)(Q:Prop):
  kr [fS,cw,cu,bR,je,fP] [] 96 3001 16 (pQ 100 101 102 q k L G C a b V M) (λ_=>pR 100 101 102 q c d V M) (λi=>i+1) Q i:=by
 rw[wL]
 have e:z k=(k:Int):=rfl
 have hQ:=trivial
 have rows:=trivial
 refine Zg (λh=>absurd h O) λ_=>?_
 exact zV
def AR(q:Query)(k:Nat)(L G:Nat->Int)(i:Int)(m:Nat)(hi:i=(m:Int))(d:m<k)(e:k<=1000)(Q:Prop)(hQ:Q):
  kr [fS,cw,cu,bR,je,fP] [] 96 3001 16 (kB 100 101 102 q k L G) (λ_=>kC 100 101 102 q k G) (λi=>i+1) Q i:=by
 rw[ue]
 have b:a_ i=m:=O
 have c:a_ (i+1)=m+1:=O
 have f:z k=(k:Int):=rfl
 rw[b,c]
 have a:aN d_ (i+1)=true:=aq O O
 have k1:=trivial
 have k2:=trivial
 have rows:=ey G m (G m) A
 refine Zg (λ_=>?_) λh=>absurd h O
 refine cC _ _ zF (cC _ _ (by rw[bW (dw m),bW (O:(m+1)*8<=140737488355328)];rfl) (cC _ _ a ?_))
 exact zV
def Fl(q:Query)(k:Nat)(L G:Nat->Int)(i:Int)(hi:i=(k:Int))(Q:Prop):
  kr [fS,cw,cu,bR,je,fP] [] 96 3001 16 (kB 100 101 102 q k L G) (λ_=>kC 100 101 102 q k G) (λi=>i+1) Q i:=by
 rw[ue]
 have a:z k=(k:Int):=rfl
 have k1:a_ i=k:=O
 have k2:=trivial
 have hQ:=trivial
 have rows:=trivial
 rw[k1]
 refine Zg (λh=>absurd h O) λ_=>?_
 exact zV
def AS(q:Query)(e f:Nat)(V M:Nat->Int)(c d:Int->List UInt8)(a b:List UInt8)(i:Int)(m:Nat)(hi:i=(m:Int))(x:m<f)(o:0<e)(p:aI 3 q.nw (au q.C)=true)(r:aI 1 q.ng (aR q.G)=true)(l:eU q=true)(n:bX (e+f) (jB e V M)=true)(s:bJ (c i) (d i)=true)
  (t:bw (ao (c8 q (e+(m+1)) (jB e V M))) (ao (da q (e+(m+1)) (jB e V M))) (ao (c i)) (ao (d i))<0->c (i+1)=c8 q (e+(m+1)) (jB e V M)/\d (i+1)=da q (e+(m+1)) (jB e V M)) (u :¬ bw (ao (c8 q (e+(m+1)) (jB e V M))) (ao (da q (e+(m+1)) (jB e V M))) (ao (c i)) (ao (d i))<0->c (i+1)=c i/\d (i+1)=d i) (Q:Prop) (hQ:Q):
  kr [fS,cw,cu,bR,mR,fO] [] 96 12001 19 (kD 97 98 99 q e f V M c d) (λ_=>kE 97 98 99 q a b) (λi=>i+1) Q i:=by
 obtain⟨y,_⟩:=dW n
 rw[ud _ _ _ _ _ _ _ _ _ _ _ A A A]
 have v:a_ (i+1)=m+1:=O
 have D:z f=(f:Int):=rfl
 have j:=dD n (O:e+(m+1)<=e+f)
 have w:=cz j l
 have g:aN d_ (i+1)=true:=aq O O
 have k:(B (0<=i+1)&&B (i+1<=z f))=true:=by simp only[bf,bn];omega
 have k1:=trivial
 have k2:=trivial
 have rows:=trivial
 rw[v,yW,wM,CK,G1,jt p r,rQ,l,oJ,oK,j,w,s]
 refine Zg (λ_=>?_) λh=>absurd h O
 refine cC _ _ (by rw[eV o,kV (dw e),dy,kV (O:e<=1000000000000)];rfl) ?_
 refine cC _ _ A (cC _ _ g (cC _ _ k (cC _ _ k (cC _ _ (by rw[bW A];rfl) (cC _ _ (by rw[bW (dw e),bW (O:m+1<=f),bW (O:(e+(m+1))*8<=140737488355328)];rfl) (cC _ _ A (cC _ _ (by rw[bW (dw _)];rfl) (cC _ _ A (cC _ _ A ?_)))))))))
 refine Zg (λh=>?_) λh=>?_
 ·have hA:=t h
  refine cC _ _ g ?_
  exact zW
 ·have hA:=u h
  refine cC _ _ g ?_
  exact zW
def Fm(q:Query)(f e:Nat)(V M:Nat->Int)(c d:Int->List UInt8)(a b:List UInt8)(i:Int)(hi:i=(e:Int))(hA:a=c i/\b=d i)(Q:Prop):
  kr [fS,cw,cu,bR,mR,fO] [] 96 12001 19 (kD 97 98 99 q f e V M c d) (λ_=>kE 97 98 99 q a b) (λi=>i+1) Q i:=by
 rw[ud _ _ _ _ _ _ _ _ _ _ _ A A A]
 have g:z e=(e:Int):=rfl
 have hQ:=trivial
 have k1:=trivial
 have k2:=trivial
 have rows:=trivial
 refine Zg (λh=>absurd h O) λ_=>?_
 exact zW
def xW(q:Query)(e:Nat)(M:Nat->Int)(c d:Int->List UInt8)(a b:List UInt8)(i:Int)(m:Nat)(hi:i=(m:Int))(v:m<e)(n:aI 3 q.nw (au q.C)=true)(o:aI 1 q.ng (aR q.G)=true)(k:eU q=true)(l:bX (e) M=true)(p:bJ (c i) (d i)=true)
  (r:bw (ao (c8 q (m+1) M)) (ao (da q (m+1) M)) (ao (c i)) (ao (d i))<0->c (i+1)=c8 q (m+1) M/\d (i+1)=da q (m+1) M) (s :¬ bw (ao (c8 q (m+1) M)) (ao (da q (m+1) M)) (ao (c i)) (ao (d i))<0->c (i+1)=c i/\d (i+1)=d i) (Q:Prop) (hQ:Q):
  kr [fS,cw,cu,bR,mR,fO] [] 96 12001 18 (kF 97 98 99 q e M c d) (λ_=>kG 97 98 99 q a b) (λi=>i+1) Q i:=by
 obtain⟨w,_⟩:=dW l
 rw[rO _ _ _ _ _ _ _ _ _ A A A]
 have t:a_ (i+1)=m+1:=O
 have x:z e=(e:Int):=rfl
 have g:=dD l (O:m+1<=e)
 have u:=cz g k
 have f:aN d_ (i+1)=true:=aq O O
 have j:(B (0<=i+1)&&B (i+1<=z e))=true:=by simp only[bf,bn];omega
 have k1:=trivial
 have k2:=trivial
 have rows:=trivial
 rw[t,wN,ug,yX,G1,jt n o,rQ,k,oJ,oK,g,u,p]
 refine Zg (λ_=>?_) λh=>absurd h O
 refine cC _ _ A (cC _ _ f (cC _ _ j (cC _ _ j (cC _ _ (by rw[bW A];rfl) (cC _ _ (by rw[bW (O:m+1<=e),bW (O:(0+(m+1))*8<=140737488355328)];rfl) (cC _ _ A (cC _ _ (by rw[bW (O:m+1<=0+(m+1))];rfl) (cC _ _ A (cC _ _ A ?_)))))))))
 refine Zg (λh=>?_) λh=>?_
 ·have hA:=r h
  refine cC _ _ f ?_
  exact zW
 ·have hA:=s h
  refine cC _ _ f ?_
  exact zW
def CN(q:Query)(e:Nat)(M:Nat->Int)(c d:Int->List UInt8)(a b:List UInt8)(i:Int)(hi:i=(e:Int))(hA:a=c i/\b=d i)(Q:Prop):
  kr [fS,cw,cu,bR,mR,fO] [] 96 12001 18 (kF 97 98 99 q e M c d) (λ_=>kG 97 98 99 q a b) (λi=>i+1) Q i:=by
 rw[rO _ _ _ _ _ _ _ _ _ A A A]
 have f:z e=(e:Int):=rfl
 have hQ:=trivial
 have k1:=trivial
 have k2:=trivial
 have rows:=trivial
 refine Zg (λh=>absurd h O) λ_=>?_
 exact zW
def AT(q:Query)(e f:Nat)(V M:Nat->Int)(c d:Int->List UInt8)(a b:List UInt8)(i:Int)(m:Nat)(hi:i=(m:Int))(x:m<f)(o:0<e)(p:aI 3 q.nw (au q.C)=true)(r:aI 1 q.ng (aR q.G)=true)(l:eU q=true)(n:bX (e+f) (jB e V M)=true)(s:bJ (c i) (d i)=true)
  (t:bw (ao (c8 q (e+(m+1)) (jB e V M))) (ao (da q (e+(m+1)) (jB e V M))) (ao (c i)) (ao (d i))>0->c (i+1)=c8 q (e+(m+1)) (jB e V M)/\d (i+1)=da q (e+(m+1)) (jB e V M)) (u :¬ bw (ao (c8 q (e+(m+1)) (jB e V M))) (ao (da q (e+(m+1)) (jB e V M))) (ao (c i)) (ao (d i))>0->c (i+1)=c i/\d (i+1)=d i) (Q:Prop) (hQ:Q):
  kr [fS,cw,cu,bR,je,fP] [] 96 12001 19 (kD 100 101 102 q e f V M c d) (λ_=>kE 100 101 102 q a b) (λi=>i+1) Q i:=by
 obtain⟨y,_⟩:=dW n
 rw[uf _ _ _ _ _ _ _ _ _ _ _ A A A]
 have v:a_ (i+1)=m+1:=O
 have D:z f=(f:Int):=rfl
 have j:=dD n (O:e+(m+1)<=e+f)
 have w:=cz j l
 have g:aN d_ (i+1)=true:=aq O O
 have k:(B (0<=i+1)&&B (i+1<=z f))=true:=by simp only[bf,bn];omega
 have k1:=trivial
 have k2:=trivial
 have rows:=trivial
 rw[v,yW,wM,CK,G1,jt p r,rQ,l,oJ,oK,j,w,s]
 refine Zg (λ_=>?_) λh=>absurd h O
 refine cC _ _ (by rw[eV o,kV (dw e),dy,kV (O:e<=1000000000000)];rfl) ?_
 refine cC _ _ A (cC _ _ g (cC _ _ k (cC _ _ k (cC _ _ (by rw[bW A];rfl) (cC _ _ (by rw[bW (dw e),bW (O:m+1<=f),bW (O:(e+(m+1))*8<=140737488355328)];rfl) (cC _ _ A (cC _ _ (by rw[bW (dw _)];rfl) (cC _ _ A (cC _ _ A ?_)))))))))
 refine Zg (λh=>?_) λh=>?_
 ·have hA:=t h
  refine cC _ _ g ?_
  exact zW
 ·have hA:=u h
  refine cC _ _ g ?_
  exact zW
def Fo(q:Query)(f e:Nat)(V M:Nat->Int)(c d:Int->List UInt8)(a b:List UInt8)(i:Int)(hi:i=(e:Int))(hA:a=c i/\b=d i)(Q:Prop):
  kr [fS,cw,cu,bR,je,fP] [] 96 12001 19 (kD 100 101 102 q f e V M c d) (λ_=>kE 100 101 102 q a b) (λi=>i+1) Q i:=by
 rw[uf _ _ _ _ _ _ _ _ _ _ _ A A A]
 have g:z e=(e:Int):=rfl
 have hQ:=trivial
 have k1:=trivial
 have k2:=trivial
 have rows:=trivial
 refine Zg (λh=>absurd h O) λ_=>?_
 exact zW
def xX(q:Query)(e:Nat)(M:Nat->Int)(c d:Int->List UInt8)(a b:List UInt8)(i:Int)(m:Nat)(hi:i=(m:Int))(v:m<e)(n:aI 3 q.nw (au q.C)=true)(o:aI 1 q.ng (aR q.G)=true)(k:eU q=true)(l:bX (e) M=true)(p:bJ (c i) (d i)=true)
  (r:bw (ao (c8 q (m+1) M)) (ao (da q (m+1) M)) (ao (c i)) (ao (d i))>0->c (i+1)=c8 q (m+1) M/\d (i+1)=da q (m+1) M) (s :¬ bw (ao (c8 q (m+1) M)) (ao (da q (m+1) M)) (ao (c i)) (ao (d i))>0->c (i+1)=c i/\d (i+1)=d i) (Q:Prop) (hQ:Q):
  kr [fS,cw,cu,bR,je,fP] [] 96 12001 18 (kF 100 101 102 q e M c d) (λ_=>kG 100 101 102 q a b) (λi=>i+1) Q i:=by
 obtain⟨w,_⟩:=dW l
 rw[rP _ _ _ _ _ _ _ _ _ A A A]
 have t:a_ (i+1)=m+1:=O
 have x:z e=(e:Int):=rfl
 have g:=dD l (O:m+1<=e)
 have u:=cz g k
 have f:aN d_ (i+1)=true:=aq O O
 have j:(B (0<=i+1)&&B (i+1<=z e))=true:=by simp only[bf,bn];omega
 have k1:=trivial
 have k2:=trivial
 have rows:=trivial
 rw[t,wN,ug,yX,G1,jt n o,rQ,k,oJ,oK,g,u,p]
 refine Zg (λ_=>?_) λh=>absurd h O
 refine cC _ _ A (cC _ _ f (cC _ _ j (cC _ _ j (cC _ _ (by rw[bW A];rfl) (cC _ _ (by rw[bW (O:m+1<=e),bW (O:(0+(m+1))*8<=140737488355328)];rfl) (cC _ _ A (cC _ _ (by rw[bW (O:m+1<=0+(m+1))];rfl) (cC _ _ A (cC _ _ A ?_)))))))))
 refine Zg (λh=>?_) λh=>?_
 ·have hA:=r h
  refine cC _ _ f ?_
  exact zW
 ·have hA:=s h
  refine cC _ _ f ?_
  exact zW
def CP(q:Query)(e:Nat)(M:Nat->Int)(c d:Int->List UInt8)(a b:List UInt8)(i:Int)(hi:i=(e:Int))(hA:a=c i/\b=d i)(Q:Prop):
  kr [fS,cw,cu,bR,je,fP] [] 96 12001 18 (kF 100 101 102 q e M c d) (λ_=>kG 100 101 102 q a b) (λi=>i+1) Q i:=by
 rw[rP _ _ _ _ _ _ _ _ _ A A A]
 have f:z e=(e:Int):=rfl
 have hQ:=trivial
 have k1:=trivial
 have k2:=trivial
 have rows:=trivial
 refine Zg (λh=>absurd h O) λ_=>?_
 exact zW
end
section
open Go.Sort Go.Shelf Go.Proofs
def aP(p:Nat->Bool)(k:Nat):Nat:=((c_ k).filter p).length
def bS(p:Nat->Bool)(W:Nat->Int)(k j:Nat):Int:=(((c_ k).filter p).map W).getD j 0
def iE{p:Nat->Bool}{m:Nat}(h:p m=true):aP p (m+1)=aP p m+1:=by
 unfold aP;rw[x_,o_,u_];simp[h]
def kO{p:Nat->Bool}{m:Nat}(h:p m=false):aP p (m+1)=aP p m:=by
 unfold aP;rw[x_,o_,u_];simp[h]
def jV(p:Nat->Bool)(k:Nat):aP p k<=k:=by
 unfold aP
 exact Nat.le_trans (List.length_filter_le _ _) zB
def mU(p:Nat->Bool):∀k,aP p k+aP (λi=>!p i) k=k
 |0=>rfl
 |k+1=>by
  have a:=mU p k
  cases h:p k with
  |true=>rw[iE h,kO (p:=λi=>!p i) (by show(!p k)=false;rw[h];rfl)];omega
  |false=>rw[kO h,iE (p:=λi=>!p i) (by show(!p k)=true;rw[h];rfl)];omega
def rR{p:Nat->Bool}{W:Nat->Int}{k m:Nat}(a:m<k)(h:p m=true):bS p W k (aP p m)=W m:=by
 unfold bS aP
 obtain⟨r,rfl⟩:∃r,k=m+(r+1):=⟨k-m-1,O⟩
 rw[List.range_add,List.range_succ_eq_map,List.map_cons,o_,List.filter_cons,Nat.add_zero,h]
 simp[k_]
def Ny{p:Nat->Bool}{W:Nat->Int}{k j:Nat}(a:j<aP p k):∃m,m<k/\bS p W k j=W m:=by
 unfold bS
 rw[k_,mo (by simpa [aP]using a)]
 have:(((c_ k).filter p).map W)[j]'(by simpa [aP]using a)∈((c_ k).filter p).map W:=w_ _
 obtain⟨m,b,c⟩:=List.mem_map.1 this
 exact⟨m,List.mem_range.1 (List.mem_filter.1 b).1,c.symm⟩
def CQ{p:Nat->Bool}{k:Nat}(h:(c_ k).any p=true):0<aP p k:=by
 obtain⟨m,a,b⟩:=List.any_eq_true.1 h
 exact List.length_pos_iff.2 (List.ne_nil_of_mem (List.mem_filter.2 ⟨a,b⟩))
def Fp{k:Nat}{W:Nat->Int}{i:Nat}(hi:i<k):∃j,j<k/\cK k W i=W j:=by
 have b:=nR (ltOf pP) k W
 have:cK k W i∈dp (ltOf pP) k W:=by
  unfold cK
  rw[k_,mo O]
  exact w_ _
 unfold dp at this
 rw[List.mem_mergeSort]at this
 obtain⟨j,a,e⟩:=List.mem_map.1 this
 exact⟨j,List.mem_range.1 a,e.symm⟩
def fA(W:Nat->Int)(k:Nat):Prop := ∀i,i<k->0<=W i/\W i<=4398046511104
def dn{k:Nat}{W:Nat->Int}(a:k<=1000)(h:fA W k):bX k W=true:=by
 unfold bX
 rw[kV a,Bool.true_and,v_]
 intro i hi
 obtain⟨b,c⟩:=h i (List.mem_range.1 hi)
 simp only[bf,bn]
 exact⟨b,c⟩
def fR{p:Nat->Bool}{W:Nat->Int}{k:Nat}(h:fA W k):fA (bS p W k) (aP p k):=λj a=>by
 obtain⟨m,b,c⟩:=Ny (W:=W) a
 rw[c];exact h m b
def pI{V M:Nat->Int}{n m:Nat}(a:fA V n)(b:fA M m):fA (jB n V M) (n+m):=λi hi=>by
 show 0<=(bif b_ i n then V i else M (i-n))/\(bif b_ i n then V i else M (i-n))<=_
 by_cases h:i<n
 ·rw[eV h];exact a i h
 ·rw[js h];exact b (i-n) O
def aS(better:Int->Bool)(R:Nat->List UInt8×List UInt8):Nat->List UInt8×List UInt8
 |0=>R 0
 |i+1=>match better (bw (ao (R (i+1)).1) (ao (R (i+1)).2) (ao (aS better R i).1) (ao (aS better R i).2))with
  |true=>R (i+1)
  |false=>aS better R i
def eK{better:Int->Bool}{R:Nat->List UInt8×List UInt8}:∀i,∃j,j<=i/\aS better R i=R j
 |0=>⟨0,dw _,rfl⟩
 |i+1=>by
  obtain⟨j,a,e⟩:=eK (better:=better) (R:=R) i
  show ∃j,j<=i+1/\(match better _ with|true=>R (i+1)|false=>aS better R i)=R j
  split
  ·exact⟨i+1,dw _,rfl⟩
  ·exact⟨j,O,e⟩
def bN(q:Query)(a:Nat)(V M:Nat->Int):Nat->List UInt8×List UInt8
 |0=>(c8 q a V,da q a V)
 |i+1=>(c8 q (a+(i+1)) (jB a V M),da q (a+(i+1)) (jB a V M))
def br(q:Query)(M:Nat->Int):Nat->List UInt8×List UInt8
 |0=>(c8 q 0 λ_=>0,da q 0 λ_=>0)
 |i+1=>(c8 q (i+1) M,da q (i+1) M)
def eO(q:Query)(k:Nat)(W:Nat->Int)(C:Nat->Bool):List UInt8×List UInt8:=match(c_ k).any C with
 |true=>aS (λc=>B (c<0)) (bN q (aP C k) (bS C W k) (bQ (aP (λi=>!C i) k) (bS (λi=>!C i) W k))) (aP (λi=>!C i) k)
 |false=>aS (λc=>B (c<0)) (br q (bQ k W)) k
def kP{W:Nat->Int}{k:Nat}(h:fA W k):fA (bQ k W) k:=λi hi=>by
 obtain⟨j,a,e⟩:=qI (W:=W) hi
 rw[e];exact h j a
def CR(q:Query)(k:Nat)(L G:Nat->Int)(C:Nat->Bool)(f:k<=1000):aE PP II false (aD II 96 3001) 16 (pQ 97 98 99 q k L G C (λi=>aP C i.toNat) (λi=>aP (λi=>!C i) i.toNat) (bS C L k) (bS (λi=>!C i) L k) 0) (pR 97 98 99 q (aP C k) (aP (λi=>!C i) k) (bS C L k) (bS (λi=>!C i) L k)):=by
 have key:=aE.of (ι:=Nat) iw [fS,cw,cu,bR,mR,fO] (bm PP II []) 1000 (c:=aD II 96 3001) (ir:=false) 16 (λi=>i<=k) (λi=>pQ 97 98 99 q k L G C (λi=>aP C i.toNat) (λi=>aP (λi=>!C i) i.toNat) (bS C L k) (bS (λi=>!C i) L k) (i:Int)) (λ_=>pR 97 98 99 q (aP C k) (aP (λi=>!C i) k) (bS C L k) (bS (λi=>!C i) L k)) (λi=>k-i) (λi=>i+1) 0 A (h_ _) λi hi=>?_
 ·exact key
 have hi:i<=k:=hi
 have b:((i:Int)).toNat=i:=O
 have d:((i:Int)+1).toNat=i+1:=O
 by_cases a:i<k
 ·have l1:=jV C i
  have l2:=jV (λi=>!C i) i
  refine CL q k L G C _ _ _ _ _ _ (i:Int) i A a f ?_ ?_ (λh=>?_) (λh=>?_) _ ⟨a,O,rfl⟩
  ·show aP C ((i:Int)).toNat<=1000
   rw[b];omega
  ·show aP (λi=>!C i) ((i:Int)).toNat<=1000
   rw[b];omega
  ·show aP C ((i:Int)+1).toNat=aP C ((i:Int)).toNat+1/\bS C L k (aP C ((i:Int)).toNat)=L i/\aP (λi=>!C i) ((i:Int)+1).toNat=aP (λi=>!C i) ((i:Int)).toNat
   rw[b,d]
   exact⟨iE h,rR a h,kO (p:=λi=>!C i) (by show(!C i)=false;rw[h];rfl)⟩
  ·have e:(λi=>!C i) i=true:=by show(!C i)=true;rw[h];rfl
   show aP (λi=>!C i) ((i:Int)+1).toNat=aP (λi=>!C i) ((i:Int)).toNat+1/\bS (λi=>!C i) L k (aP (λi=>!C i) ((i:Int)).toNat)=L i/\aP C ((i:Int)+1).toNat=aP C ((i:Int)).toNat
   rw[b,d]
   exact⟨iE e,rR a e,kO h⟩
 ·have hi:i=k:=by omega
  subst hi
  refine Jq q i L G C _ _ _ _ _ _ (i:Int) A ?_ ?_ _
  ·show aP C ((i:Int)).toNat=_
   rw[b]
  ·show aP (λi=>!C i) ((i:Int)).toNat=_
   rw[b]
def AU(q:Query)(k:Nat)(L G:Nat->Int)(b:k<=1000):aE PP II false (aD II 96 3001) 16 (kB 97 98 99 q k L G 0) (kC 97 98 99 q k L):=by
 have key:=aE.of (ι:=Nat) iw [fS,cw,cu,bR,mR,fO] (bm PP II []) 1000 (c:=aD II 96 3001) (ir:=false) 16 (λi=>i<=k) (λi=>kB 97 98 99 q k L G (i:Int)) (λ_=>kC 97 98 99 q k L) (λi=>k-i) (λi=>i+1) 0 A (h_ _) λi hi=>?_
 ·exact key
 have hi:i<=k:=hi
 by_cases a:i<k
 ·exact AQ q k L G (i:Int) i A a b _ ⟨a,O,rfl⟩
 ·have hi:i=k:=by omega
  subst hi
  exact Fk q i L G (i:Int) A _
def CS(q:Query)(a b:Nat)(V M:Nat->Int)(o:0<a)(p:aI 3 q.nw (au q.C)=true)(r:aI 1 q.ng (aR q.G)=true)(g:eU q=true)(s:a+b<=1000)(k:fA V a)(t:fA M b):
  aE PP II false (aD II 96 12001) 19 (kD 97 98 99 q a b V M (λi=>(aS (λc=>B (c<0)) (bN q a V M) i.toNat).1) (λi=>(aS (λc=>B (c<0)) (bN q a V M) i.toNat).2) 0) (kE 97 98 99 q (aS (λc=>B (c<0)) (bN q a V M) b).1 (aS (λc=>B (c<0)) (bN q a V M) b).2):=by
 have l:=dn s (pI k t)
 have u:∀i,i<=b->bJ (bN q a V M i).1 (bN q a V M i).2=true:=λi hi=>by
  cases i with
  |zero=>exact cz (dn O k) g
  |succ i=>exact cz (dD l O) g
 have v:∀i,i<=b->bJ (aS (λc=>B (c<0)) (bN q a V M) i).1 (aS (λc=>B (c<0)) (bN q a V M) i).2=true:=λi hi=>by
  obtain⟨j,w,e⟩:=eK (better:=λc=>B (c<0)) (R:=bN q a V M) i
  rw[e];exact u j O
 have m:∀i,(aS (λc=>B (c<0)) (bN q a V M) (i+1))=match B (bw (ao (c8 q (a+(i+1)) (jB a V M))) (ao (da q (a+(i+1)) (jB a V M))) (ao (aS (λc=>B (c<0)) (bN q a V M) i).1) (ao (aS (λc=>B (c<0)) (bN q a V M) i).2)<0)with|true=>(c8 q (a+(i+1)) (jB a V M),da q (a+(i+1)) (jB a V M))|false=>aS (λc=>B (c<0)) (bN q a V M) i:=λi=>rfl
 generalize aS (λc=>B (c<0)) (bN q a V M)=Z at*
 have key:=aE.of (ι:=Nat) iw [fS,cw,cu,bR,mR,fO] (bm PP II []) 1000 (c:=aD II 96 12001) (ir:=false) 19 (λi=>i<=b) (λi=>kD 97 98 99 q a b V M (λi=>(Z i.toNat).1) (λi=>(Z i.toNat).2) (i:Int)) (λ_=>kE 97 98 99 q (Z b).1 (Z b).2) (λi=>b-i) (λi=>i+1) 0 A (h_ _) λi hi=>?_
 ·exact key
 have hi:i<=b:=hi
 have d:((i:Int)).toNat=i:=O
 have n:((i:Int)+1).toNat=i+1:=O
 by_cases f:i<b
 ·refine AS q a b V M _ _ _ _ (i:Int) i A f o p r g l ?_ (λh=>?_) (λh=>?_) _ ⟨f,O,rfl⟩
  ·show bJ (Z ((i:Int)).toNat).1 (Z ((i:Int)).toNat).2=true
   rw[d];exact v i hi
  ·show(Z ((i:Int)+1).toNat).1=_/\(Z ((i:Int)+1).toNat).2=_
   simp only[d]at h
   rw[n,m,bW h]
   exact⟨rfl,rfl⟩
  ·show(Z ((i:Int)+1).toNat).1=(Z ((i:Int)).toNat).1/\(Z ((i:Int)+1).toNat).2=(Z ((i:Int)).toNat).2
   simp only[d]at h
   rw[d,n,m,nZ h]
   exact⟨rfl,rfl⟩
 ·have hi:i=b:=by omega
  subst hi
  refine Fm q a i V M _ _ _ _ (i:Int) A ?_ _
  show(Z i).1=(Z ((i:Int)).toNat).1/\(Z i).2=(Z ((i:Int)).toNat).2
  rw[d];exact⟨rfl,rfl⟩
def AW(q:Query)(a:Nat)(M:Nat->Int)(n:aI 3 q.nw (au q.C)=true)(o:aI 1 q.ng (aR q.G)=true)(f:eU q=true)(p:a<=1000)(r:fA M a):
  aE PP II false (aD II 96 12001) 18 (kF 97 98 99 q a M (λi=>(aS (λc=>B (c<0)) (br q M) i.toNat).1) (λi=>(aS (λc=>B (c<0)) (br q M) i.toNat).2) 0) (kG 97 98 99 q (aS (λc=>B (c<0)) (br q M) a).1 (aS (λc=>B (c<0)) (br q M) a).2):=by
 have g:=dn p r
 have s:∀i,i<=a->bJ (br q M i).1 (br q M i).2=true:=λi hi=>by
  cases i with
  |zero=>exact cz (k:=0) (W:=λ_=>0) A f
  |succ i=>exact cz (dD g O) f
 have t:∀i,i<=a->bJ (aS (λc=>B (c<0)) (br q M) i).1 (aS (λc=>B (c<0)) (br q M) i).2=true:=λi hi=>by
  obtain⟨j,u,e⟩:=eK (better:=λc=>B (c<0)) (R:=br q M) i
  rw[e];exact s j O
 have l:∀i,(aS (λc=>B (c<0)) (br q M) (i+1))=match B (bw (ao (c8 q (i+1) M)) (ao (da q (i+1) M)) (ao (aS (λc=>B (c<0)) (br q M) i).1) (ao (aS (λc=>B (c<0)) (br q M) i).2)<0)with|true=>(c8 q (i+1) M,da q (i+1) M)|false=>aS (λc=>B (c<0)) (br q M) i:=λi=>rfl
 generalize aS (λc=>B (c<0)) (br q M)=Z at*
 have key:=aE.of (ι:=Nat) iw [fS,cw,cu,bR,mR,fO] (bm PP II []) 1000 (c:=aD II 96 12001) (ir:=false) 18 (λi=>i<=a) (λi=>kF 97 98 99 q a M (λi=>(Z i.toNat).1) (λi=>(Z i.toNat).2) (i:Int)) (λ_=>kG 97 98 99 q (Z a).1 (Z a).2) (λi=>a-i) (λi=>i+1) 0 A (h_ _) λi hi=>?_
 ·exact key
 have hi:i<=a:=hi
 have b:((i:Int)).toNat=i:=O
 have m:((i:Int)+1).toNat=i+1:=O
 by_cases d:i<a
 ·refine xW q a M _ _ _ _ (i:Int) i A d n o f g ?_ (λh=>?_) (λh=>?_) _ ⟨d,O,rfl⟩
  ·show bJ (Z ((i:Int)).toNat).1 (Z ((i:Int)).toNat).2=true
   rw[b];exact t i hi
  ·show(Z ((i:Int)+1).toNat).1=_/\(Z ((i:Int)+1).toNat).2=_
   simp only[b]at h
   rw[m,l,bW h]
   exact⟨rfl,rfl⟩
  ·show(Z ((i:Int)+1).toNat).1=(Z ((i:Int)).toNat).1/\(Z ((i:Int)+1).toNat).2=(Z ((i:Int)).toNat).2
   simp only[b]at h
   rw[b,m,l,nZ h]
   exact⟨rfl,rfl⟩
 ·have hi:i=a:=by omega
  subst hi
  refine CN q i M _ _ _ _ (i:Int) A ?_ _
  show(Z i).1=(Z ((i:Int)).toNat).1/\(Z i).2=(Z ((i:Int)).toNat).2
  rw[b];exact⟨rfl,rfl⟩
def dQ(q:Query)(k:Nat)(W:Nat->Int)(C:Nat->Bool):List UInt8×List UInt8:=match(c_ k).any C with
 |true=>aS (λc=>B (c>0)) (bN q (aP C k) (bS C W k) (cK (aP (λi=>!C i) k) (bS (λi=>!C i) W k))) (aP (λi=>!C i) k)
 |false=>aS (λc=>B (c>0)) (br q (cK k W)) k
def kQ{W:Nat->Int}{k:Nat}(h:fA W k):fA (cK k W) k:=λi hi=>by
 obtain⟨j,a,e⟩:=Fp (W:=W) hi
 rw[e];exact h j a
def CT(q:Query)(k:Nat)(L G:Nat->Int)(C:Nat->Bool)(f:k<=1000):aE PP II false (aD II 96 3001) 16 (pQ 100 101 102 q k L G C (λi=>aP C i.toNat) (λi=>aP (λi=>!C i) i.toNat) (bS C G k) (bS (λi=>!C i) G k) 0) (pR 100 101 102 q (aP C k) (aP (λi=>!C i) k) (bS C G k) (bS (λi=>!C i) G k)):=by
 have key:=aE.of (ι:=Nat) iw [fS,cw,cu,bR,je,fP] (bm PP II []) 1000 (c:=aD II 96 3001) (ir:=false) 16 (λi=>i<=k) (λi=>pQ 100 101 102 q k L G C (λi=>aP C i.toNat) (λi=>aP (λi=>!C i) i.toNat) (bS C G k) (bS (λi=>!C i) G k) (i:Int)) (λ_=>pR 100 101 102 q (aP C k) (aP (λi=>!C i) k) (bS C G k) (bS (λi=>!C i) G k)) (λi=>k-i) (λi=>i+1) 0 A (h_ _) λi hi=>?_
 ·exact key
 have hi:i<=k:=hi
 have b:((i:Int)).toNat=i:=O
 have d:((i:Int)+1).toNat=i+1:=O
 by_cases a:i<k
 ·have l1:=jV C i
  have l2:=jV (λi=>!C i) i
  refine CM q k L G C _ _ _ _ _ _ (i:Int) i A a f ?_ ?_ (λh=>?_) (λh=>?_) _ ⟨a,O,rfl⟩
  ·show aP C ((i:Int)).toNat<=1000
   rw[b];omega
  ·show aP (λi=>!C i) ((i:Int)).toNat<=1000
   rw[b];omega
  ·show aP C ((i:Int)+1).toNat=aP C ((i:Int)).toNat+1/\bS C G k (aP C ((i:Int)).toNat)=G i/\aP (λi=>!C i) ((i:Int)+1).toNat=aP (λi=>!C i) ((i:Int)).toNat
   rw[b,d]
   exact⟨iE h,rR a h,kO (p:=λi=>!C i) (by show(!C i)=false;rw[h];rfl)⟩
  ·have e:(λi=>!C i) i=true:=by show(!C i)=true;rw[h];rfl
   show aP (λi=>!C i) ((i:Int)+1).toNat=aP (λi=>!C i) ((i:Int)).toNat+1/\bS (λi=>!C i) G k (aP (λi=>!C i) ((i:Int)).toNat)=G i/\aP C ((i:Int)+1).toNat=aP C ((i:Int)).toNat
   rw[b,d]
   exact⟨iE e,rR a e,kO h⟩
 ·have hi:i=k:=by omega
  subst hi
  refine Jr q i L G C _ _ _ _ _ _ (i:Int) A ?_ ?_ _
  ·show aP C ((i:Int)).toNat=_
   rw[b]
  ·show aP (λi=>!C i) ((i:Int)).toNat=_
   rw[b]
def AX(q:Query)(k:Nat)(L G:Nat->Int)(b:k<=1000):aE PP II false (aD II 96 3001) 16 (kB 100 101 102 q k L G 0) (kC 100 101 102 q k G):=by
 have key:=aE.of (ι:=Nat) iw [fS,cw,cu,bR,je,fP] (bm PP II []) 1000 (c:=aD II 96 3001) (ir:=false) 16 (λi=>i<=k) (λi=>kB 100 101 102 q k L G (i:Int)) (λ_=>kC 100 101 102 q k G) (λi=>k-i) (λi=>i+1) 0 A (h_ _) λi hi=>?_
 ·exact key
 have hi:i<=k:=hi
 by_cases a:i<k
 ·exact AR q k L G (i:Int) i A a b _ ⟨a,O,rfl⟩
 ·have hi:i=k:=by omega
  subst hi
  exact Fl q i L G (i:Int) A _
def CU(q:Query)(a b:Nat)(V M:Nat->Int)(o:0<a)(p:aI 3 q.nw (au q.C)=true)(r:aI 1 q.ng (aR q.G)=true)(g:eU q=true)(s:a+b<=1000)(k:fA V a)(t:fA M b):
  aE PP II false (aD II 96 12001) 19 (kD 100 101 102 q a b V M (λi=>(aS (λc=>B (c>0)) (bN q a V M) i.toNat).1) (λi=>(aS (λc=>B (c>0)) (bN q a V M) i.toNat).2) 0) (kE 100 101 102 q (aS (λc=>B (c>0)) (bN q a V M) b).1 (aS (λc=>B (c>0)) (bN q a V M) b).2):=by
 have l:=dn s (pI k t)
 have u:∀i,i<=b->bJ (bN q a V M i).1 (bN q a V M i).2=true:=λi hi=>by
  cases i with
  |zero=>exact cz (dn O k) g
  |succ i=>exact cz (dD l O) g
 have v:∀i,i<=b->bJ (aS (λc=>B (c>0)) (bN q a V M) i).1 (aS (λc=>B (c>0)) (bN q a V M) i).2=true:=λi hi=>by
  obtain⟨j,w,e⟩:=eK (better:=λc=>B (c>0)) (R:=bN q a V M) i
  rw[e];exact u j O
 have m:∀i,(aS (λc=>B (c>0)) (bN q a V M) (i+1))=match B (bw (ao (c8 q (a+(i+1)) (jB a V M))) (ao (da q (a+(i+1)) (jB a V M))) (ao (aS (λc=>B (c>0)) (bN q a V M) i).1) (ao (aS (λc=>B (c>0)) (bN q a V M) i).2)>0)with|true=>(c8 q (a+(i+1)) (jB a V M),da q (a+(i+1)) (jB a V M))|false=>aS (λc=>B (c>0)) (bN q a V M) i:=λi=>rfl
 generalize aS (λc=>B (c>0)) (bN q a V M)=Z at*
 have key:=aE.of (ι:=Nat) iw [fS,cw,cu,bR,je,fP] (bm PP II []) 1000 (c:=aD II 96 12001) (ir:=false) 19 (λi=>i<=b) (λi=>kD 100 101 102 q a b V M (λi=>(Z i.toNat).1) (λi=>(Z i.toNat).2) (i:Int)) (λ_=>kE 100 101 102 q (Z b).1 (Z b).2) (λi=>b-i) (λi=>i+1) 0 A (h_ _) λi hi=>?_
 ·exact key
 have hi:i<=b:=hi
 have d:((i:Int)).toNat=i:=O
 have n:((i:Int)+1).toNat=i+1:=O
 by_cases f:i<b
 ·refine AT q a b V M _ _ _ _ (i:Int) i A f o p r g l ?_ (λh=>?_) (λh=>?_) _ ⟨f,O,rfl⟩
  ·show bJ (Z ((i:Int)).toNat).1 (Z ((i:Int)).toNat).2=true
   rw[d];exact v i hi
  ·show(Z ((i:Int)+1).toNat).1=_/\(Z ((i:Int)+1).toNat).2=_
   simp only[d]at h
   rw[n,m,bW h]
   exact⟨rfl,rfl⟩
  ·show(Z ((i:Int)+1).toNat).1=(Z ((i:Int)).toNat).1/\(Z ((i:Int)+1).toNat).2=(Z ((i:Int)).toNat).2
   simp only[d]at h
   rw[d,n,m,nZ h]
   exact⟨rfl,rfl⟩
 ·have hi:i=b:=by omega
  subst hi
  refine Fo q a i V M _ _ _ _ (i:Int) A ?_ _
  show(Z i).1=(Z ((i:Int)).toNat).1/\(Z i).2=(Z ((i:Int)).toNat).2
  rw[d];exact⟨rfl,rfl⟩
def AY(q:Query)(a:Nat)(M:Nat->Int)(n:aI 3 q.nw (au q.C)=true)(o:aI 1 q.ng (aR q.G)=true)(f:eU q=true)(p:a<=1000)(r:fA M a):
  aE PP II false (aD II 96 12001) 18 (kF 100 101 102 q a M (λi=>(aS (λc=>B (c>0)) (br q M) i.toNat).1) (λi=>(aS (λc=>B (c>0)) (br q M) i.toNat).2) 0) (kG 100 101 102 q (aS (λc=>B (c>0)) (br q M) a).1 (aS (λc=>B (c>0)) (br q M) a).2):=by
 have g:=dn p r
 have s:∀i,i<=a->bJ (br q M i).1 (br q M i).2=true:=λi hi=>by
  cases i with
  |zero=>exact cz (k:=0) (W:=λ_=>0) A f
  |succ i=>exact cz (dD g O) f
 have t:∀i,i<=a->bJ (aS (λc=>B (c>0)) (br q M) i).1 (aS (λc=>B (c>0)) (br q M) i).2=true:=λi hi=>by
  obtain⟨j,u,e⟩:=eK (better:=λc=>B (c>0)) (R:=br q M) i
  rw[e];exact s j O
 have l:∀i,(aS (λc=>B (c>0)) (br q M) (i+1))=match B (bw (ao (c8 q (i+1) M)) (ao (da q (i+1) M)) (ao (aS (λc=>B (c>0)) (br q M) i).1) (ao (aS (λc=>B (c>0)) (br q M) i).2)>0)with|true=>(c8 q (i+1) M,da q (i+1) M)|false=>aS (λc=>B (c>0)) (br q M) i:=λi=>rfl
 generalize aS (λc=>B (c>0)) (br q M)=Z at*
 have key:=aE.of (ι:=Nat) iw [fS,cw,cu,bR,je,fP] (bm PP II []) 1000 (c:=aD II 96 12001) (ir:=false) 18 (λi=>i<=a) (λi=>kF 100 101 102 q a M (λi=>(Z i.toNat).1) (λi=>(Z i.toNat).2) (i:Int)) (λ_=>kG 100 101 102 q (Z a).1 (Z a).2) (λi=>a-i) (λi=>i+1) 0 A (h_ _) λi hi=>?_
 ·exact key
 have hi:i<=a:=hi
 have b:((i:Int)).toNat=i:=O
 have m:((i:Int)+1).toNat=i+1:=O
 by_cases d:i<a
 ·refine xX q a M _ _ _ _ (i:Int) i A d n o f g ?_ (λh=>?_) (λh=>?_) _ ⟨d,O,rfl⟩
  ·show bJ (Z ((i:Int)).toNat).1 (Z ((i:Int)).toNat).2=true
   rw[b];exact t i hi
  ·show(Z ((i:Int)+1).toNat).1=_/\(Z ((i:Int)+1).toNat).2=_
   simp only[b]at h
   rw[m,l,bW h]
   exact⟨rfl,rfl⟩
  ·show(Z ((i:Int)+1).toNat).1=(Z ((i:Int)).toNat).1/\(Z ((i:Int)+1).toNat).2=(Z ((i:Int)).toNat).2
   simp only[b]at h
   rw[b,m,l,nZ h]
   exact⟨rfl,rfl⟩
 ·have hi:i=a:=by omega
  subst hi
  refine CP q i M _ _ _ _ (i:Int) A ?_ _
  show(Z i).1=(Z ((i:Int)).toNat).1/\(Z i).2=(Z ((i:Int)).toNat).2
  rw[b];exact⟨rfl,rfl⟩
end
section
open Go.Sort Go.Shelf Go.Proofs
def G2(x:List UInt8×List UInt8)(σ:Nat->Nat):A_ σ (.agg [.str x.1,.str x.2]) (.agg [.str x.1,.str x.2]):=⟨rfl,rfl,trivial⟩
def qi(n:Nat)(W:Nat->Int):((c_ n).all λi=>bt.free (ae W i))=true:=List.all_eq_true.2 λ_ _=>rfl
def jP(W:Nat->Int):aM (ae W)=W:=rfl
def Nz{q:Query}{k:Nat}{L G:Nat->Int}{C:Nat->Bool}(b:aI 3 q.nw (au q.C)=true)(d:aI 1 q.ng (aR q.G)=true)(e:eU q=true)(f:k<=1000)(g:fA L k):
  af PP II 96 [.agg (aY q),.ab k 3 (bi L G C),.fn 97 [] [],.fn 95 [] [],.fn 98 [] [],.fn 99 [] []] HR (.ret (.agg [.str (eO q k L C).1,.str (eO q k L C).2]) HR):=by
 unfold eO
 have a:=G2
 cases l:(c_ k).any C with
 |true=>
  have n0:=CQ l
  have v:=mU C k
  have m:=fR (p:=C) g
  have h:=fR (p:=λi=>!C i) g
  have lp:=CR q k L G C f
  have lp2:=CS q (aP C k) (aP (λi=>!C i) k) (bS C L k) (bQ (aP (λi=>!C i) k) (bS (λi=>!C i) L k)) n0 b d e O m (kP h)
  refine qh (ks:=[fS,cw,cu,bR,mR,fO]) (T:=[(3001,16,pQ 97 98 99 q k L G C (λi=>aP C i.toNat) (λi=>aP (λi=>!C i) i.toNat) (bS C L k) (bS (λi=>!C i) L k) 0,pR 97 98 99 q (aP C k) (aP (λi=>!C i) k) (bS C L k) (bS (λi=>!C i) L k)),(12001,19,kD 97 98 99 q (aP C k) (aP (λi=>!C i) k) (bS C L k) (bQ (aP (λi=>!C i) k) (bS (λi=>!C i) L k)) (λi=>(aS (λc=>B (c<0)) (bN q (aP C k) (bS C L k) (bQ (aP (λi=>!C i) k) (bS (λi=>!C i) L k))) i.toNat).1) (λi=>(aS (λc=>B (c<0)) (bN q (aP C k) (bS C L k) (bQ (aP (λi=>!C i) k) (bS (λi=>!C i) L k))) i.toNat).2) 0,kE 97 98 99 q (aS (λc=>B (c<0)) (bN q (aP C k) (bS C L k) (bQ (aP (λi=>!C i) k) (bS (λi=>!C i) L k))) (aP (λi=>!C i) k)).1 (aS (λc=>B (c<0)) (bN q (aP C k) (bS C L k) (bQ (aP (λi=>!C i) k) (bS (λi=>!C i) L k))) (aP (λi=>!C i) k)).2)]) ?_
  rw[Nw]
  have a1:(bA (aP (λi=>!C i) k) (ae (bS (λi=>!C i) L k))&&n_ (aP (λi=>!C i) k) (aP (λi=>!C i) k)&&b_ (aP (λi=>!C i) k) 4611686018427387904&&true&&true)=true:=by
   rw[dy,ni,eV O];rfl
  have a2:(((c_ (aP C k)).all λi=>bt.free (ae (bS C L k) i))&&B (aP C k<=aP C k))=true:=by rw[qi,bW (dw _)];rfl
  have o:=dn (O:aP C k<=1000) m
  have z1:aP C (0:Int).toNat=0:=rfl
  have z2:aP (λi=>!C i) (0:Int).toNat=0:=rfl
  have j:aS (λc=>B (c<0)) (bN q (aP C k) (bS C L k) (bQ (aP (λi=>!C i) k) (bS (λi=>!C i) L k))) (0:Int).toNat=(c8 q (aP C k) (bS C L k),da q (aP C k) (bS C L k)):=rfl
  rw[jP,jP,jt b d,rQ,e,oJ,oK]
  simp only[j]
  generalize aS (λc=>B (c<0)) (bN q (aP C k) (bS C L k) (bQ (aP (λi=>!C i) k) (bS (λi=>!C i) L k)))=Z at*
  generalize aP (λi=>!C i) k=r at*
  generalize aP C k=n at*
  have a4:(true&&true&&bA n (ae (bS C L k))&&bX n (bS C L k))=true:=by rw[dy,o];rfl
  have hQ:=a (Z r)
  exact zX
 |false=>
  have s:∀i,i<k->C i=false:=λi hi=>by
   have:=List.any_eq_false.1 l i (List.mem_range.2 hi)
   simpa using this
  have h:=kP g
  have lp:=AU q k L G f
  have lp2:=AW q k (bQ k L) b d e f h
  have key:af PP II 96 [.agg (aY q),.ab k 3 (bi L G λ_=>false),.fn 97 [] [],.fn 95 [] [],.fn 98 [] [],.fn 99 [] []] HR (.ret (.agg [.str (aS (λc=>B (c<0)) (br q (bQ k L)) k).1,.str (aS (λc=>B (c<0)) (br q (bQ k L)) k).2]) HR):=by
   refine qh (ks:=[fS,cw,cu,bR,mR,fO]) (T:=[(3001,16,kB 97 98 99 q k L G 0,kC 97 98 99 q k L),(12001,18,kF 97 98 99 q k (bQ k L) (λi=>(aS (λc=>B (c<0)) (br q (bQ k L)) i.toNat).1) (λi=>(aS (λc=>B (c<0)) (br q (bQ k L)) i.toNat).2) 0,kG 97 98 99 q (aS (λc=>B (c<0)) (br q (bQ k L)) k).1 (aS (λc=>B (c<0)) (br q (bQ k L)) k).2)]) ?_
   rw[Jo]
   have a1:(bA k (ae L)&&n_ k k&&b_ k 4611686018427387904&&true&&true)=true:=by
    rw[dy,ni,eV O];rfl
   have j:aS (λc=>B (c<0)) (br q (bQ k L)) (0:Int).toNat=(c8 q 0 (λ_=>0),da q 0 (λ_=>0)):=rfl
   rw[jP,jt b d,rQ,e,oJ,oK]
   simp only[j]
   generalize aS (λc=>B (c<0)) (br q (bQ k L))=Z at*
   have hQ:=a (Z k)
   exact zY
  intro c ρ w vs hG t u
  refine key c ρ w vs hG (aU.tQ (show bt.le _ [.agg (aY q),.ab k 3 (bi L G C),.fn 97 [] [],.fn 95 [] [],.fn 98 [] [],.fn 99 [] []] [.agg (aY q),.ab k 3 (bi L G λ_=>false),.fn 97 [] [],.fn 95 [] [],.fn 98 [] [],.fn 99 [] []]from⟨⟨⟨rfl,rfl,λi hi=>jq _ _ _⟩,⟨rfl,rfl,λi hi=>pF _ _ _⟩,⟨rfl,rfl⟩,⟨rfl,rfl⟩,rfl,rfl,⟨rfl,rfl⟩,trivial⟩,⟨rfl,rfl,λi hi=>⟨⟨rfl,rfl⟩,⟨rfl,rfl⟩,s i hi,trivial⟩⟩,⟨rfl,trivial,trivial⟩,⟨rfl,trivial,trivial⟩,⟨rfl,trivial,trivial⟩,⟨rfl,trivial,trivial⟩,trivial⟩) t) u
def NA{q:Query}{k:Nat}{L G:Nat->Int}{C:Nat->Bool}(b:aI 3 q.nw (au q.C)=true)(d:aI 1 q.ng (aR q.G)=true)(e:eU q=true)(f:k<=1000)(g:fA G k):
  af PP II 96 [.agg (aY q),.ab k 3 (bi L G C),.fn 100 [] [],.fn 95 [] [],.fn 101 [] [],.fn 102 [] []] HR (.ret (.agg [.str (dQ q k G C).1,.str (dQ q k G C).2]) HR):=by
 unfold dQ
 have a:=G2
 cases l:(c_ k).any C with
 |true=>
  have n0:=CQ l
  have v:=mU C k
  have m:=fR (p:=C) g
  have h:=fR (p:=λi=>!C i) g
  have lp:=CT q k L G C f
  have lp2:=CU q (aP C k) (aP (λi=>!C i) k) (bS C G k) (cK (aP (λi=>!C i) k) (bS (λi=>!C i) G k)) n0 b d e O m (kQ h)
  refine qh (ks:=[fS,cw,cu,bR,je,fP]) (T:=[(3001,16,pQ 100 101 102 q k L G C (λi=>aP C i.toNat) (λi=>aP (λi=>!C i) i.toNat) (bS C G k) (bS (λi=>!C i) G k) 0,pR 100 101 102 q (aP C k) (aP (λi=>!C i) k) (bS C G k) (bS (λi=>!C i) G k)),(12001,19,kD 100 101 102 q (aP C k) (aP (λi=>!C i) k) (bS C G k) (cK (aP (λi=>!C i) k) (bS (λi=>!C i) G k)) (λi=>(aS (λc=>B (c>0)) (bN q (aP C k) (bS C G k) (cK (aP (λi=>!C i) k) (bS (λi=>!C i) G k))) i.toNat).1) (λi=>(aS (λc=>B (c>0)) (bN q (aP C k) (bS C G k) (cK (aP (λi=>!C i) k) (bS (λi=>!C i) G k))) i.toNat).2) 0,kE 100 101 102 q (aS (λc=>B (c>0)) (bN q (aP C k) (bS C G k) (cK (aP (λi=>!C i) k) (bS (λi=>!C i) G k))) (aP (λi=>!C i) k)).1 (aS (λc=>B (c>0)) (bN q (aP C k) (bS C G k) (cK (aP (λi=>!C i) k) (bS (λi=>!C i) G k))) (aP (λi=>!C i) k)).2)]) ?_
  rw[Nx]
  have a1:(bA (aP (λi=>!C i) k) (ae (bS (λi=>!C i) G k))&&n_ (aP (λi=>!C i) k) (aP (λi=>!C i) k)&&b_ (aP (λi=>!C i) k) 4611686018427387904&&true&&true)=true:=by
   rw[dy,ni,eV O];rfl
  have a2:(((c_ (aP C k)).all λi=>bt.free (ae (bS C G k) i))&&B (aP C k<=aP C k))=true:=by rw[qi,bW (dw _)];rfl
  have o:=dn (O:aP C k<=1000) m
  have z1:aP C (0:Int).toNat=0:=rfl
  have z2:aP (λi=>!C i) (0:Int).toNat=0:=rfl
  have j:aS (λc=>B (c>0)) (bN q (aP C k) (bS C G k) (cK (aP (λi=>!C i) k) (bS (λi=>!C i) G k))) (0:Int).toNat=(c8 q (aP C k) (bS C G k),da q (aP C k) (bS C G k)):=rfl
  rw[jP,jP,jt b d,rQ,e,oJ,oK]
  simp only[j]
  generalize aS (λc=>B (c>0)) (bN q (aP C k) (bS C G k) (cK (aP (λi=>!C i) k) (bS (λi=>!C i) G k)))=Z at*
  generalize aP (λi=>!C i) k=r at*
  generalize aP C k=n at*
  have a4:(true&&true&&bA n (ae (bS C G k))&&bX n (bS C G k))=true:=by rw[dy,o];rfl
  have hQ:=a (Z r)
  exact zX
 |false=>
  have s:∀i,i<k->C i=false:=λi hi=>by
   have:=List.any_eq_false.1 l i (List.mem_range.2 hi)
   simpa using this
  have h:=kQ g
  have lp:=AX q k L G f
  have lp2:=AY q k (cK k G) b d e f h
  have key:af PP II 96 [.agg (aY q),.ab k 3 (bi L G λ_=>false),.fn 100 [] [],.fn 95 [] [],.fn 101 [] [],.fn 102 [] []] HR (.ret (.agg [.str (aS (λc=>B (c>0)) (br q (cK k G)) k).1,.str (aS (λc=>B (c>0)) (br q (cK k G)) k).2]) HR):=by
   refine qh (ks:=[fS,cw,cu,bR,je,fP]) (T:=[(3001,16,kB 100 101 102 q k L G 0,kC 100 101 102 q k G),(12001,18,kF 100 101 102 q k (cK k G) (λi=>(aS (λc=>B (c>0)) (br q (cK k G)) i.toNat).1) (λi=>(aS (λc=>B (c>0)) (br q (cK k G)) i.toNat).2) 0,kG 100 101 102 q (aS (λc=>B (c>0)) (br q (cK k G)) k).1 (aS (λc=>B (c>0)) (br q (cK k G)) k).2)]) ?_
   rw[Jp]
   have a1:(bA k (ae G)&&n_ k k&&b_ k 4611686018427387904&&true&&true)=true:=by
    rw[dy,ni,eV O];rfl
   have j:aS (λc=>B (c>0)) (br q (cK k G)) (0:Int).toNat=(c8 q 0 (λ_=>0),da q 0 (λ_=>0)):=rfl
   rw[jP,jt b d,rQ,e,oJ,oK]
   simp only[j]
   generalize aS (λc=>B (c>0)) (br q (cK k G))=Z at*
   have hQ:=a (Z k)
   exact zY
  intro c ρ w vs hG t u
  refine key c ρ w vs hG (aU.tQ (show bt.le _ [.agg (aY q),.ab k 3 (bi L G C),.fn 100 [] [],.fn 95 [] [],.fn 101 [] [],.fn 102 [] []] [.agg (aY q),.ab k 3 (bi L G λ_=>false),.fn 100 [] [],.fn 95 [] [],.fn 101 [] [],.fn 102 [] []]from⟨⟨⟨rfl,rfl,λi hi=>jq _ _ _⟩,⟨rfl,rfl,λi hi=>pF _ _ _⟩,⟨rfl,rfl⟩,⟨rfl,rfl⟩,rfl,rfl,⟨rfl,rfl⟩,trivial⟩,⟨rfl,rfl,λi hi=>⟨⟨rfl,rfl⟩,⟨rfl,rfl⟩,s i hi,trivial⟩⟩,⟨rfl,trivial,trivial⟩,⟨rfl,trivial,trivial⟩,⟨rfl,trivial,trivial⟩,⟨rfl,trivial,trivial⟩,trivial⟩) t) u
end
section
open Go.Sort Go.Shelf Go.Proofs
def lD(k:Nat)(r:Nat->List AV):Bool:=(c_ k).all λi=>match r i with|[.int d_ _,.int d_ _,.bool _]=>true|_=>false
def ka(r:Nat->List AV)(i:Nat):Int:=match r i with|[.int d_ a,_,_]=>a|_=>0
def iF(r:Nat->List AV)(i:Nat):Int:=match r i with|[_,.int d_ a,_]=>a|_=>0
def iG(r:Nat->List AV)(i:Nat):Bool:=match r i with|[_,_,.bool a]=>a|_=>false
def oL{k:Nat}{r:Nat->List AV}(h:lD k r=true):A_ (λl=>l) (.ab k 3 r) (.ab k 3 (bi (ka r) (iF r) (iG r))):=⟨rfl,rfl,λi hi=>by
 have:=List.all_eq_true.1 h i (List.mem_range.2 hi)
 unfold bi ka iF iG
 split at this
 ·rename_i a b c d;rw[d];exact⟨⟨rfl,rfl⟩,⟨rfl,rfl⟩,rfl,trivial⟩
 ·cases this⟩
def yY{k:Nat}{W:Nat->Int}(h:bX k W=true):fA W k:=(dW h).2
def af.G3{P:Program}{I:ba}{f:FuncId}{x y i j a b c d:AV}{H:AH}{o:CO}(h:af P I f [i,j,a,b,c,d] H o)(k1:A_ (λl=>l) x i)(k2:A_ (λl=>l) y j)(m:bt.le (λl=>l) [a,b,c,d] [a,b,c,d]):af P I f [x,y,a,b,c,d] H o :=
 λq ρ w vs hG s t=>h q ρ w vs hG (aU.tQ (show bt.le _ (x::y::[a,b,c,d]) (i::j::[a,b,c,d])from⟨k1,k2,m⟩) s) t
def SU:aC PP II:=aC.s9 96
 (λX args d=>match args with
  |[.agg cs,.ab k 3 r,.fn v [] [],.fn 95 [] [],.fn b [] [],.fn o [] []]=>match toQ cs with
   |some q=>X.ak (gn cs&&eU q&&lD k r&&bX k (ka r)&&bX k (iF r)) (match v,b,o with
    |97,98,99=>d (.agg [.str (eO q k (ka r) (iG r)).1,.str (eO q k (ka r) (iG r)).2])
    |100,101,102=>d (.agg [.str (dQ q k (iF r) (iG r)).1,.str (dQ q k (iF r) (iG r)).2])
    |_,_,_=>X.fail)
   |none=>X.fail
  |_=>X.fail)
 λX sem hX args d h=>by
  split at h
  ·split at h
   ·rename_i q a
    obtain⟨e,c⟩:=hX.ak _ _ h
    simp only[bf]at e
    obtain⟨⟨⟨⟨a1,a2⟩,f⟩,a4⟩,g⟩:=e
    obtain⟨r1,i⟩:=rN a a1
    have j:∀σ (l:List AV),bt.bD σ l=l->bt.bD σ (.agg _::l)= .agg _::l:=λσ l hl=>by
     show AV.bD σ (.agg _)::bt.bD σ l=_
     rw[nU a,hl]
    split at c
    ·exact⟨_,c,λ_=>rfl,λσ=>j σ _ A,(Nz (G:=iF _) r1 i a2 (dW a4).1 (yY a4)).G3 (toQ_le a a1) (oL f) ⟨⟨rfl,trivial,trivial⟩,⟨rfl,trivial,trivial⟩,⟨rfl,trivial,trivial⟩,⟨rfl,trivial,trivial⟩,trivial⟩⟩
    ·exact⟨_,c,λ_=>rfl,λσ=>j σ _ A,(NA (L:=ka _) r1 i a2 (dW g).1 (yY g)).G3 (toQ_le a a1) (oL f) ⟨⟨rfl,trivial,trivial⟩,⟨rfl,trivial,trivial⟩,⟨rfl,trivial,trivial⟩,⟨rfl,trivial,trivial⟩,trivial⟩⟩
    ·exact absurd c hX.fail
   ·exact zS
  ·exact zS
def Js(q:Query)(k:Nat)(L G:Nat->Int)(C:Nat->Bool)(Q:AV->Prop){b}(e:b=(dQ {nw:=q.nw,C:=λj k=>bV (au q.C j) k,ng:=q.ng,G:=λj=>q.G j,a:=q.a,fl:=q.fl,nu:=q.nu,de:=q.de,top:=q.top} k (iF (bi L G C)) (iG (bi L G C)))){c}(f:c=(gn [i_ q.nw 3 (au q.C),i_ q.ng 1 (aR q.G),f_ d_ q.a,f_ d_ q.fl,e_ q.nu,e_ q.de,f_ d_ q.top]&&eU {nw:=q.nw,C:=λj k=>bV (au q.C j) k,ng:=q.ng,G:=λj=>q.G j,a:=q.a,fl:=q.fl,nu:=q.nu,de:=q.de,top:=q.top}&&lD k (bi L G C)&&bX k (ka (bi L G C))&&bX k (iF (bi L G C)))){d}(g:d=(eO {nw:=q.nw,C:=λj k=>bV (au q.C j) k,ng:=q.ng,G:=λj=>q.G j,a:=q.a,fl:=q.fl,nu:=q.nu,de:=q.de,top:=q.top} k (ka (bi L G C)) (iG (bi L G C)))):(kq [SU] [] 41 [.agg (aY q),.ab k 3 (bi L G C)] Q)=(aa c (aa c (aa (B (p_ b=p_ b)&&(B (q_ b=q_ b)&&true)) (Q (AV.bK [t_ [e_ (p_ d),e_ (q_ d)],t_ [e_ (p_ b),e_ (q_ b)]]))))):=by subst_vars;kernel_rfl
def CV(q:Query)(a:Nat)(V M:Nat->Int):bN (qX q) a V M=bN q a V M:=by
 funext i;cases i<;>rfl
def yZ(q:Query)(M:Nat->Int):br (qX q) M=br q M:=by
 funext i;cases i<;>rfl
def QF(q:Query)(k:Nat)(W:Nat->Int)(C:Nat->Bool):eO ⟨q.nw,λj k=>bV (au q.C j) k,q.ng,λj=>q.G j,q.a,q.fl,q.nu,q.de,q.top⟩ k W C=eO q k W C:=by
 show eO (qX q) k W C=_
 unfold eO
 rw[CV,yZ]
def QG(q:Query)(k:Nat)(W:Nat->Int)(C:Nat->Bool):dQ ⟨q.nw,λj k=>bV (au q.C j) k,q.ng,λj=>q.G j,q.a,q.fl,q.nu,q.de,q.top⟩ k W C=dQ q k W C:=by
 show dQ (qX q) k W C=_
 unfold dQ
 rw[CV,yZ]
def rS(k:Nat)(L G:Nat->Int)(C:Nat->Bool):lD k (bi L G C)=true:=List.all_eq_true.2 λ_ _=>rfl
def wO(L G:Nat->Int)(C:Nat->Bool):ka (bi L G C)=L/\iF (bi L G C)=G/\iG (bi L G C)=C:=⟨rfl,rfl,rfl⟩
def CW(q:Query)(k:Nat)(L G:Nat->Int)(C:Nat->Bool):AV:=.bK [.agg [.str (eO q k L C).1,.str (eO q k L C).2],.agg [.str (dQ q k G C).1,.str (dQ q k G C).2]]
def Jt{q:Query}{k:Nat}{L G:Nat->Int}{C:Nat->Bool}(c:aI 3 q.nw (au q.C)=true)(d:aI 1 q.ng (aR q.G)=true)(e:eU q=true)(hL:bX k L=true)(hG:bX k G=true):
  af PP II 41 [.agg (aY q),.ab k 3 (bi L G C)] HR (.ret (CW q k L G C) HR):=by
 refine qh (ks:=[SU]) (T:=[]) ?_
 rw[Js _ _ _ _ _ _ A A A,jt c d,rQ,e,rS,(wO L G C).1,(wO L G C).2.1,(wO L G C).2.2,hL,hG]
 refine cC _ _ A (cC _ _ A (cC _ _ zB λσ=>?_))
 have a:=QF q k L C
 have b:=QG q k G C
 exact⟨⟨congrArg p_ a,congrArg q_ a,trivial⟩,⟨congrArg p_ b,congrArg q_ b,trivial⟩,trivial⟩
end
section
open Go.Sort Go.Shelf Go.Proofs
def aX(n:Nat)(K:Nat->Nat->Int)(S:Nat->Nat->List UInt8)(i:Nat):List AV:=[.ab n 1 (ae (K i)),.str (S i 0),.str (S i 1),.str (S i 2),.str (S i 3),.str [48],.str [49],.str [48],.str [49]]
def Xr(q:Query)(n:Nat)(K:Nat->Nat->Int)(S:Nat->Nat->List UInt8)(no top:Nat)(a:List (Nat×ABlk)):AH:={n:=top,t:=r_ ([(6,.cells dz (.ex 20)),(12,.cells (aY q) (.ty 32)),(13,.rows no 9 (aX n K S) (.ty 44))]++a)}
def t65(m n:Nat)(K:Nat->Nat->Int)(S:Nat->Nat->List UInt8)(no:Nat)(i:Int)(a:List (Nat×AV)):Tr AV:=r_ ([(1,.ab m 9 (aX n K S)),(2,.ptr 12 0 0 0),(5,.own 13 no 9),(15,.ab m 9 (aX n K S)),(16,.int d_ (z m)),(17,.int d_ i)]++a)
def SV(q:Query)(m n:Nat)(K a:Nat->Nat->Int)(S b:Nat->Nat->List UInt8)(N:Int->Nat)(i:Int):St:={t:=t65 m n K S (N i) i [],nt:=46,H:=Xr q n a b (N i) 14 [],df:=[]}
def SX(q:Query)(n:Nat)(a:Nat->Nat->Int)(b:Nat->Nat->List UInt8)(no:Nat):GE:=.one (.x 0 {t:=r_ [(5,.own 13 no 9)],nt:=46,H:=Xr q n a b no 14 [],df:=[]})
def wP(q:Query)(m n:Nat)(K a:Nat->Nat->Int)(S b:Nat->Nat->List UInt8)(no:Nat)(i:Int)(r:Nat)(c:Int->Int)(j:Int):St:={t:=t65 m n K S no i [(7,.ptr 14 0 0 0),(8,.int d_ (c j)),(21,.ab m 9 (aX n K S)),(22,.int d_ (z m)),(23,.int d_ j)],nt:=46,H:=Xr q n a b no 15 [(14,.cells (aX n K S r) (.ty 44))],df:=[]}
def wQ(q:Query)(m n:Nat)(K a:Nat->Nat->Int)(S b:Nat->Nat->List UInt8)(no:Nat)(i:Int)(r:Nat)(c:Int):GE:=.one (.x 2 {t:=t65 m n K S no i [(7,.ptr 14 0 0 0),(8,.int d_ c)],nt:=46,H:=Xr q n a b no 15 [(14,.cells (aX n K S r) (.ty 44))],df:=[]})
def wR(q:Query)(m n:Nat)(K b:Nat->Nat->Int)(S d:Nat->Nat->List UInt8)(no:Nat)(i:Int)(r:Nat)(c:Int->Int)(cE:Int)(j:Int)(Q:Prop):(kr [j8] [] 42 9001 15 (wP q m n K b S d no i r c) (λ_=>wQ q m n K b S d no i r cE) (λj=>j+1) Q j)=(ah (B (j<z m)) (aa (B (0<=j)&&B (j<z m)) (aa (bJ (S j.toNat 0) (S j.toNat 1)&&bJ (S r 2) (S r 3)) (ah (B (bw (ao (S j.toNat 0)) (ao (S j.toNat 1)) (ao (S r 2)) (ao (S r 3))>0)) (aa (aN d_ (c j+1)) (aa (aN d_ (j+1)) (zyN n (zyR n (ae (K r)) (zyB (S r 0) (zyB (S r 1) (zyB (S r 2) (zyB (S r 3) (zyB [48] (zyB [49] (zyB [48] (zyB [49] (zyN no (zyR no (aX n b d) (zyN q.nw (zyR q.nw (au q.C) (zyN q.ng (zyR q.ng (aR q.G) (zyI q.a (zyI q.fl (zyB q.nu (zyB q.de (zyI q.top (zyN m (zyR m (aX n K S) (zyI (j+1) (zyN m (zyR m (aX n K S) (zyI i (zyN no (zyN m (zyR m (aX n K S) (zyI (z m) (aH (c j+1) (c (j+1)) (zyI (z m) Q))))))))))))))))))))))))))))))))))) (aa (aN d_ (j+1)) (zyN n (zyR n (ae (K r)) (zyB (S r 0) (zyB (S r 1) (zyB (S r 2) (zyB (S r 3) (zyB [48] (zyB [49] (zyB [48] (zyB [49] (zyN no (zyR no (aX n b d) (zyN q.nw (zyR q.nw (au q.C) (zyN q.ng (zyR q.ng (aR q.G) (zyI q.a (zyI q.fl (zyB q.nu (zyB q.de (zyI q.top (zyN m (zyR m (aX n K S) (zyI (j+1) (zyN m (zyR m (aX n K S) (zyI i (zyN no (zyN m (zyR m (aX n K S) (zyI (z m) (aH (c j) (c (j+1)) (zyI (z m) Q))))))))))))))))))))))))))))))))))))) (zyN n (zyR n (ae (K r)) (zyB (S r 0) (zyB (S r 1) (zyB (S r 2) (zyB (S r 3) (zyB [48] (zyB [49] (zyB [48] (zyB [49] (zyN no (zyR no (aX n b d) (zyN q.nw (zyR q.nw (au q.C) (zyN q.ng (zyR q.ng (aR q.G) (zyI q.a (zyI q.fl (zyB q.nu (zyB q.de (zyI q.top (zyN m (zyR m (aX n K S) (zyN m (zyR m (aX n K S) (zyI i (zyN no (zyI (z m) (aH (c j) cE True)))))))))))))))))))))))))))))):=U
def uh(q:Query)(m n:Nat)(K b:Nat->Nat->Int)(S d:Nat->Nat->List UInt8)(N:Int->Nat)(no:Nat)(c:Int->Int)(cE:Int)(i:Int)(Q:Prop):(kr [j8] [(9001,15,wP q m n K b S d (N i) i i.toNat c 0,wQ q m n K b S d (N i) i i.toNat cE)] 42 5001 13 (SV q m n K b S d N) (λ_=>SX q n b d no) (λj=>j+1) Q i)=(ah (B (i<z m)) (aa (B (0<=i)&&B (i<z m)) (aE PP II false (aD II 42 9001) 15 (wP q m n K b S d (N i) i i.toNat c 0) (wQ q m n K b S d (N i) i i.toNat cE)/\zyN n (zyR n (ae (K i.toNat)) (zyB (S i.toNat 0) (zyB (S i.toNat 1) (zyB (S i.toNat 2) (zyB (S i.toNat 3) (zyB [48] (zyB [49] (zyB [48] (zyB [49] (zyN (N i) (zyR (N i) (aX n b d) (zyN q.nw (zyR q.nw (au q.C) (zyN q.ng (zyR q.ng (aR q.G) (zyI q.a (zyI q.fl (zyB q.nu (zyB q.de (zyI q.top (zyN m (zyR m (aX n K S) (zyN m (zyR m (aX n K S) (zyI i (zyN (N i) (zyN m (zyR m (aX n K S) (zyI (z m) (aH 0 (c 0) (zyI (z m) (ah (B (cE<q.top)) (aa (B (N i<=N i)&&true&&true&&B ((N i+1)*152<=140737488355328)&&true) (aa (aN d_ (i+1)) (ax (N i+1) (N (i+1)) (an (N i+1) (λe=>bif b_ e (N i)then aX n b d e else l_ 9 (m_ (0+(e-N i)*9) [i_ n 1 (ae (K i.toNat)),e_ (S i.toNat 0),e_ (S i.toNat 1),e_ (S i.toNat 2),e_ (S i.toNat 3),e_ [48],e_ [49],e_ [48],e_ [49]])) (aX n b d)/\zyN q.nw (zyR q.nw (au q.C) (zyN q.ng (zyR q.ng (aR q.G) (zyI q.a (zyI q.fl (zyB q.nu (zyB q.de (zyI q.top (zyN m (zyR m (aX n K S) (zyN m (zyR m (aX n K S) (zyI (i+1) (ax (N i+1) (N (i+1)) (zyI (z m) Q))))))))))))))))))) (aa (aN d_ (i+1)) (ax (N i) (N (i+1)) (zyR (N i) (aX n b d) (zyN q.nw (zyR q.nw (au q.C) (zyN q.ng (zyR q.ng (aR q.G) (zyI q.a (zyI q.fl (zyB q.nu (zyB q.de (zyI q.top (zyN m (zyR m (aX n K S) (zyN m (zyR m (aX n K S) (zyI (i+1) (ax (N i) (N (i+1)) (zyI (z m) Q))))))))))))))))))))))))))))))))))))))))))))))))))))) (ax (N i) no (zyR (N i) (aX n b d) (zyN q.nw (zyR q.nw (au q.C) (zyN q.ng (zyR q.ng (aR q.G) (zyI q.a (zyI q.fl (zyB q.nu (zyB q.de (zyI q.top (ax (N i) no True))))))))))))):=U
def Uq(q:Query)(m n:Nat)(K b:Nat->Nat->Int)(S c:Nat->Nat->List UInt8)(N:Int->Nat)(no:Nat)(Q:AV->Prop):(kp [j8] [(5001,13,SV q m n K b S c N 0,SX q n b c no)] 42 [.agg (aY q),.ab m 9 (aX n K S)] Q)=(ah (B (q.top=0)) (Q (i_ m 9 (aX n K S))) (aE PP II false (aD II 42 5001) 13 (SV q m n K b S c N 0) (SX q n b c no)/\ax (N 0) 0 (zyN q.nw (zyR q.nw (au q.C) (zyN q.ng (zyR q.ng (aR q.G) (zyI q.a (zyI q.fl (zyB q.nu (zyB q.de (zyI q.top (zyN m (zyR m (aX n K S) (zyN m (zyR m (aX n K S) (ax (N 0) 0 (zyI (z m) (aa ((g_ (c_ no) λi=>bt.free (aX n b c i))&&B (no<=no)) (Q (i_ no 9 (aX n b c))))))))))))))))))))):=U
end
end
end Go.Sx
