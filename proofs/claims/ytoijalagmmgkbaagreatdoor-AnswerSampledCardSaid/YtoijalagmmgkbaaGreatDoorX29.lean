/- Lemmas, part 29. -/
import Derived.Test.YtoijalagmmgkbaaGreatDoorX28
set_option linter.all false
set_option linter.defProp false
set_option maxRecDepth 1000000
namespace Go.Sx
open Go
open Int renaming ofNat->M,toNat->u_
open Decidable renaming decide->z
open Go.IntKind renaming i64->a_
open AV renaming int->b_,bool->d_,ab->e_,str->f_,agg->m_,qP->o_,le->s_
open AH renaming blank->c_
open Nat renaming blt->g_,zero_add->p_,ble->q_,beq->v_
open List renaming take->h_,drop->i_,range->j_,all->t_
open Prod renaming fst->k_,snd->l_
open Tr renaming ofList->n_
noncomputable section
section
open Go.Sort Go.Shelf Go.Proofs
def On(k:Nat)(r:Nat->List AV):Bool:=(j_ k).all λi=>match r i with|[.int a_ _,.int a_ _,.bool _]=>true|_=>false
def ka(r:Nat->List AV)(i:Nat):Int:=match r i with|[.int a_ a,_,_]=>a|_=>0
def iF(r:Nat->List AV)(i:Nat):Int:=match r i with|[_,.int a_ a,_]=>a|_=>0
def iG(r:Nat->List AV)(i:Nat):Bool:=match r i with|[_,_,.bool a]=>a|_=>false
def Rf{k r}(h:On k r=true):s_ (λl=>l) (.ab k 3 r) (.ab k 3 (az (ka r) (iF r) (iG r))):=⟨rfl,rfl,λi hi=>by
 have:=List.all_eq_true.1 h i (List.mem_range.2 hi)
 unfold az ka iF iG
 split at this
 ·rename_i a b c d;rw[d];exact⟨⟨rfl,rfl⟩,⟨rfl,rfl⟩,rfl,trivial⟩
 ·cases this⟩
def yY{k W}(h:bX k W=true):fA W k:=(dW h).2
def af.G3{P I f x y i j a b c d H o}(h:af P I f [i,j,a,b,c,d] H o)(k1:s_ (λl=>l) x i)(k2:s_ (λl=>l) y j)(m:bt.le (λl=>l) [a,b,c,d] [a,b,c,d]):af P I f [x,y,a,b,c,d] H o :=
 λq ρ w vs hG s t=>h q ρ w vs hG (aU.tQ (show bt.le _ (x::y::[a,b,c,d]) (i::j::[a,b,c,d])from⟨k1,k2,m⟩) s) t
def SU:aC PP II:=aC.s9 96
 (λX args c=>match args with
  |[.agg cs,.ab k 3 r,.fn v [] [],.fn 95 [] [],.fn b [] [],.fn o [] []]=>match toQ cs with
   |some q=>X.bq (oA cs&&Hl q&&On k r&&bX k (ka r)&&bX k (iF r)) (match v,b,o with
    |97,98,99=>c (.agg [.str (eO q k (ka r) (iG r)).1,.str (eO q k (ka r) (iG r)).2])
    |100,101,102=>c (.agg [.str (dQ q k (iF r) (iG r)).1,.str (dQ q k (iF r) (iG r)).2])
    |_,_,_=>X.fail)
   |none=>X.fail
  |_=>X.fail)
 λX sem hX args c h=>by
  split at h
  ·split at h
   ·rename_i q hq
    obtain⟨d,a⟩:=hX.bq _ _ h
    simp only[bf]at d
    obtain⟨⟨⟨⟨a1,a2⟩,e⟩,f⟩,g⟩:=d
    obtain⟨r1,i⟩:=Xn hq a1
    have j:∀σ (l:List AV),bt.bD σ l=l->bt.bD σ (.agg _::l)= .agg _::l:=λσ l hl=>by
     show AV.bD σ (.agg _)::bt.bD σ l=_
     rw[nU hq,hl]
    split at a
    ·exact⟨_,a,λ_=>rfl,λσ=>j σ _ A,(Nz (G:=iF _) r1 i a2 (dW f).1 (yY f)).G3 (toQ_le hq a1) (Rf e) ⟨⟨rfl,trivial,trivial⟩,⟨rfl,trivial,trivial⟩,⟨rfl,trivial,trivial⟩,⟨rfl,trivial,trivial⟩,trivial⟩⟩
    ·exact⟨_,a,λ_=>rfl,λσ=>j σ _ A,(NA (L:=ka _) r1 i a2 (dW g).1 (yY g)).G3 (toQ_le hq a1) (Rf e) ⟨⟨rfl,trivial,trivial⟩,⟨rfl,trivial,trivial⟩,⟨rfl,trivial,trivial⟩,⟨rfl,trivial,trivial⟩,trivial⟩⟩
    ·exact absurd a hX.fail
   ·exact zR
  ·exact zR
def Js(q)(k)(L G)(C)(Q){b}(e:b=(dQ {nw:=q.nw,C:=λj k=>bV (au q.C j) k,ng:=q.ng,G:=λj=>q.G j,a:=q.a,fl:=q.fl,nu:=q.nu,de:=q.de,top:=q.top} k (iF (az L G C)) (iG (az L G C)))){c}(f:c=(oA [e_ q.nw 3 (au q.C),e_ q.ng 1 (aR q.G),b_ a_ q.a,b_ a_ q.fl,f_ q.nu,f_ q.de,b_ a_ q.top]&&Hl {nw:=q.nw,C:=λj k=>bV (au q.C j) k,ng:=q.ng,G:=λj=>q.G j,a:=q.a,fl:=q.fl,nu:=q.nu,de:=q.de,top:=q.top}&&On k (az L G C)&&bX k (ka (az L G C))&&bX k (iF (az L G C)))){d}(g:d=(eO {nw:=q.nw,C:=λj k=>bV (au q.C j) k,ng:=q.ng,G:=λj=>q.G j,a:=q.a,fl:=q.fl,nu:=q.nu,de:=q.de,top:=q.top} k (ka (az L G C)) (iG (az L G C)))):(kq [SU] [] 41 [.agg (aY q),.ab k 3 (az L G C)] Q)=(aa c (aa c (aa (z (k_ b=k_ b)&&(z (l_ b=l_ b)&&true)) (Q (o_ [m_ [f_ (k_ d),f_ (l_ d)],m_ [f_ (k_ b),f_ (l_ b)]]))))):=by subst_vars;kernel_rfl
def CV(q)(b)(V a):ru (qX q) b V a=ru q b V a:=by
 rfl
def yZ(q)(a):br (qX q) a=br q a:=by
 rfl
def QF(q)(k)(W)(C):eO ⟨q.nw,λj k=>bV (au q.C j) k,q.ng,λj=>q.G j,q.a,q.fl,q.nu,q.de,q.top⟩ k W C=eO q k W C:=by
 rfl
def QG(q)(k)(W)(C):dQ ⟨q.nw,λj k=>bV (au q.C j) k,q.ng,λj=>q.G j,q.a,q.fl,q.nu,q.de,q.top⟩ k W C=dQ q k W C:=by
 rfl
def rS(k)(L G)(C):On k (az L G C)=true:=List.all_eq_true.2 λ_ _=>rfl
def wO(L G)(C):ka (az L G C)=L/\iF (az L G C)=G/\iG (az L G C)=C:=⟨rfl,rfl,rfl⟩
def CW(q:Query)(k:Nat)(L G:Nat->Int)(C:Nat->Bool):AV:=.qP [.agg [.str (eO q k L C).1,.str (eO q k L C).2],.agg [.str (dQ q k G C).1,.str (dQ q k G C).2]]
def Jt{q k L G C}(b:aI 3 q.nw (au q.C)=true)(c:aI 1 q.ng (aR q.G)=true)(hq:Hl q=true)(hL:bX k L=true)(hG:bX k G=true):
  af PP II 41 [.agg (aY q),.ab k 3 (az L G C)] HR (.ret (CW q k L G C) HR):=by
 refine qh (ks:=[SU]) (T:=[]) ?_
 rw[Js _ _ _ _ _ _ A A A,jt b c,rQ,hq,rS,(wO L G C).1,(wO L G C).2.1,(wO L G C).2.2,hL,hG]
 refine cC _ _ A (cC _ _ A (cC _ _ zA λσ=>?_))
 have e1:=QF q k L C
 have a:=QG q k G C
 exact⟨⟨congrArg k_ e1,congrArg l_ e1,trivial⟩,⟨congrArg k_ a,congrArg l_ a,trivial⟩,trivial⟩
end
section
open Go.Sort Go.Shelf Go.Proofs
def aX(n:Nat)(K:Nat->Nat->Int)(S:Nat->Nat->List UInt8)(i:Nat):List AV:=[.ab n 1 (ae (K i)),.str (S i 0),.str (S i 1),.str (S i 2),.str (S i 3),.str [48],.str [49],.str [48],.str [49]]
def Xr(q:Query)(n:Nat)(K:Nat->Nat->Int)(S:Nat->Nat->List UInt8)(no top:Nat)(a:List (Nat×eT)):AH:={n:=top,t:=n_ ([(6,.cells dz (.ex 20)),(12,.cells (aY q) (.ty 32)),(13,.rows no 9 (aX n K S) (.ty 44))]++a)}
def t65(m n:Nat)(K:Nat->Nat->Int)(S:Nat->Nat->List UInt8)(no:Nat)(i:Int)(a:List (Nat×AV)):Tr AV:=n_ ([(1,.ab m 9 (aX n K S)),(2,.ptr 12 0 0 0),(5,.own 13 no 9),(15,.ab m 9 (aX n K S)),(16,.int a_ (M m)),(17,.int a_ i)]++a)
def SV(q:Query)(m n:Nat)(K a:Nat->Nat->Int)(S b:Nat->Nat->List UInt8)(N:Int->Nat)(i:Int):St:={t:=t65 m n K S (N i) i [],nt:=46,H:=Xr q n a b (N i) 14 [],df:=[]}
def SX(q:Query)(n:Nat)(a:Nat->Nat->Int)(b:Nat->Nat->List UInt8)(no:Nat):GE:=.one (.x 0 {t:=n_ [(5,.own 13 no 9)],nt:=46,H:=Xr q n a b no 14 [],df:=[]})
def wP(q:Query)(m n:Nat)(K a:Nat->Nat->Int)(S b:Nat->Nat->List UInt8)(no:Nat)(i:Int)(r:Nat)(c:Int->Int)(j:Int):St:={t:=t65 m n K S no i [(7,.ptr 14 0 0 0),(8,.int a_ (c j)),(21,.ab m 9 (aX n K S)),(22,.int a_ (M m)),(23,.int a_ j)],nt:=46,H:=Xr q n a b no 15 [(14,.cells (aX n K S r) (.ty 44))],df:=[]}
def wQ(q:Query)(m n:Nat)(K a:Nat->Nat->Int)(S b:Nat->Nat->List UInt8)(no:Nat)(i:Int)(r:Nat)(c:Int):GE:=.one (.x 2 {t:=t65 m n K S no i [(7,.ptr 14 0 0 0),(8,.int a_ c)],nt:=46,H:=Xr q n a b no 15 [(14,.cells (aX n K S r) (.ty 44))],df:=[]})
def wR(q)(m n)(K b)(S d)(no)(i)(r)(c)(cE)(j)(Q):(kr [j8] [] 42 9001 15 (wP q m n K b S d no i r c) (λ_=>wQ q m n K b S d no i r cE) (λj=>j+1) Q j)=(ah (z (j<M m)) (aa (z (0<=j)&&z (j<M m)) (aa (bJ (S j.toNat 0) (S j.toNat 1)&&bJ (S r 2) (S r 3)) (ah (z (bw (ao (S j.toNat 0)) (ao (S j.toNat 1)) (ao (S r 2)) (ao (S r 3))>0)) (aa (aN a_ (c j+1)) (aa (aN a_ (j+1)) (zyN n (zyR n (ae (K r)) (zyB (S r 0) (zyB (S r 1) (zyB (S r 2) (zyB (S r 3) (zyB [48] (zyB [49] (zyB [48] (zyB [49] (zyN no (zyR no (aX n b d) (zyN q.nw (zyR q.nw (au q.C) (zyN q.ng (zyR q.ng (aR q.G) (zyI q.a (zyI q.fl (zyB q.nu (zyB q.de (zyI q.top (zyN m (zyR m (aX n K S) (zyI (j+1) (zyN m (zyR m (aX n K S) (zyI i (zyN no (zyN m (zyR m (aX n K S) (zyI (M m) (aH (c j+1) (c (j+1)) (zyI (M m) Q))))))))))))))))))))))))))))))))))) (aa (aN a_ (j+1)) (zyN n (zyR n (ae (K r)) (zyB (S r 0) (zyB (S r 1) (zyB (S r 2) (zyB (S r 3) (zyB [48] (zyB [49] (zyB [48] (zyB [49] (zyN no (zyR no (aX n b d) (zyN q.nw (zyR q.nw (au q.C) (zyN q.ng (zyR q.ng (aR q.G) (zyI q.a (zyI q.fl (zyB q.nu (zyB q.de (zyI q.top (zyN m (zyR m (aX n K S) (zyI (j+1) (zyN m (zyR m (aX n K S) (zyI i (zyN no (zyN m (zyR m (aX n K S) (zyI (M m) (aH (c j) (c (j+1)) (zyI (M m) Q))))))))))))))))))))))))))))))))))))) (zyN n (zyR n (ae (K r)) (zyB (S r 0) (zyB (S r 1) (zyB (S r 2) (zyB (S r 3) (zyB [48] (zyB [49] (zyB [48] (zyB [49] (zyN no (zyR no (aX n b d) (zyN q.nw (zyR q.nw (au q.C) (zyN q.ng (zyR q.ng (aR q.G) (zyI q.a (zyI q.fl (zyB q.nu (zyB q.de (zyI q.top (zyN m (zyR m (aX n K S) (zyN m (zyR m (aX n K S) (zyI i (zyN no (zyI (M m) (aH (c j) cE True)))))))))))))))))))))))))))))):=U
def uh(q)(m n)(K b)(S d)(N)(no)(c)(cE)(i)(Q):(kr [j8] [(9001,15,wP q m n K b S d (N i) i i.toNat c 0,wQ q m n K b S d (N i) i i.toNat cE)] 42 5001 13 (SV q m n K b S d N) (λ_=>SX q n b d no) (λj=>j+1) Q i)=(ah (z (i<M m)) (aa (z (0<=i)&&z (i<M m)) (eu PP II false (aD II 42 9001) 15 (wP q m n K b S d (N i) i i.toNat c 0) (wQ q m n K b S d (N i) i i.toNat cE)/\zyN n (zyR n (ae (K i.toNat)) (zyB (S i.toNat 0) (zyB (S i.toNat 1) (zyB (S i.toNat 2) (zyB (S i.toNat 3) (zyB [48] (zyB [49] (zyB [48] (zyB [49] (zyN (N i) (zyR (N i) (aX n b d) (zyN q.nw (zyR q.nw (au q.C) (zyN q.ng (zyR q.ng (aR q.G) (zyI q.a (zyI q.fl (zyB q.nu (zyB q.de (zyI q.top (zyN m (zyR m (aX n K S) (zyN m (zyR m (aX n K S) (zyI i (zyN (N i) (zyN m (zyR m (aX n K S) (zyI (M m) (aH 0 (c 0) (zyI (M m) (ah (z (cE<q.top)) (aa (z (N i<=N i)&&true&&true&&z ((N i+1)*152<=140737488355328)&&true) (aa (aN a_ (i+1)) (ax (N i+1) (N (i+1)) (an (N i+1) (λe=>bif g_ e (N i)then aX n b d e else h_ 9 (i_ (0+(e-N i)*9) [e_ n 1 (ae (K i.toNat)),f_ (S i.toNat 0),f_ (S i.toNat 1),f_ (S i.toNat 2),f_ (S i.toNat 3),f_ [48],f_ [49],f_ [48],f_ [49]])) (aX n b d)/\zyN q.nw (zyR q.nw (au q.C) (zyN q.ng (zyR q.ng (aR q.G) (zyI q.a (zyI q.fl (zyB q.nu (zyB q.de (zyI q.top (zyN m (zyR m (aX n K S) (zyN m (zyR m (aX n K S) (zyI (i+1) (ax (N i+1) (N (i+1)) (zyI (M m) Q))))))))))))))))))) (aa (aN a_ (i+1)) (ax (N i) (N (i+1)) (zyR (N i) (aX n b d) (zyN q.nw (zyR q.nw (au q.C) (zyN q.ng (zyR q.ng (aR q.G) (zyI q.a (zyI q.fl (zyB q.nu (zyB q.de (zyI q.top (zyN m (zyR m (aX n K S) (zyN m (zyR m (aX n K S) (zyI (i+1) (ax (N i) (N (i+1)) (zyI (M m) Q))))))))))))))))))))))))))))))))))))))))))))))))))))) (ax (N i) no (zyR (N i) (aX n b d) (zyN q.nw (zyR q.nw (au q.C) (zyN q.ng (zyR q.ng (aR q.G) (zyI q.a (zyI q.fl (zyB q.nu (zyB q.de (zyI q.top (ax (N i) no True))))))))))))):=U
def Uq(q)(m n)(K b)(S c)(N)(no)(Q):(kp [j8] [(5001,13,SV q m n K b S c N 0,SX q n b c no)] 42 [.agg (aY q),.ab m 9 (aX n K S)] Q)=(ah (z (q.top=0)) (Q (e_ m 9 (aX n K S))) (eu PP II false (aD II 42 5001) 13 (SV q m n K b S c N 0) (SX q n b c no)/\ax (N 0) 0 (zyN q.nw (zyR q.nw (au q.C) (zyN q.ng (zyR q.ng (aR q.G) (zyI q.a (zyI q.fl (zyB q.nu (zyB q.de (zyI q.top (zyN m (zyR m (aX n K S) (zyN m (zyR m (aX n K S) (ax (N 0) 0 (zyI (M m) (aa ((t_ (j_ no) λi=>bt.free (aX n b c i))&&z (no<=no)) (Q (e_ no 9 (aX n b c))))))))))))))))))))):=U
end
section
open Go.Sort Go.Shelf Go.Proofs
def oM(n)(K)(S)(i)(σ):bt.le σ (aX n K S i) (aX n K S i):=⟨⟨rfl,rfl,λ_ _=>zM _ _ _⟩,rfl,rfl,rfl,rfl,rfl,rfl,rfl,rfl,trivial⟩
def eP(m n)(K)(S):an m (aX n K S) (aX n K S):=λi _ σ=>oM n K S i σ
def CX(q)(m n)(K e)(S f)(no)(i)(r)(c)(cE)(j)(a:Nat)(l:j=(a:Int))(ha:a<m)(o:m<=1000000)(p:0<=c j/\c j<=1000000)(g:bJ (S a 0) (S a 1)=true)(d:bJ (S r 2) (S r 3)=true)
  (k:bw (ao (S a 0)) (ao (S a 1)) (ao (S r 2)) (ao (S r 3))>0->c (j+1)=c j+1) (hn :¬ bw (ao (S a 0)) (ao (S a 1)) (ao (S r 2)) (ao (S r 3))>0->c (j+1)=c j) (Q) (hQ:Q):
  kr [j8] [] 42 9001 15 (wP q m n K e S f no i r c) (λ_=>wQ q m n K e S f no i r cE) (λj=>j+1) Q j:=by
 rw[wR]
 have e1:u_ j=a:=O
 have s:M m=(m:Int):=rfl
 rw[e1]
 have b:aN a_ (j+1)=true:=aq O O
 refine Zg (λ_=>?_) O
 refine cC _ _ Y (cC _ _ (by rw[g,d];rfl) ?_)
 refine Zg (λh=>?_) λh=>?_
 ·have k1:=(k h).symm
  refine cC _ _ (aq O O) (cC _ _ b ?_)
  exact ZB
 ·have k1:=(hn h).symm
  refine cC _ _ b ?_
  exact ZB
def Ju(q)(m n:Nat)(K a)(S b)(no)(i)(r)(c)(cE)(j)(d:j=(m:Int))(k1:c j=cE)(Q):
  kr [j8] [] 42 9001 15 (wP q m n K a S b no i r c) (λ_=>wQ q m n K a S b no i r cE) (λj=>j+1) Q j:=by
 rw[wR]
 have e:M m=(m:Int):=rfl
 have hQ:=trivial
 refine Zg O λ_=>?_
 exact ZB
def AZ(n)(K a:Nat->Nat->Int)(S b:Nat->Nat->List UInt8)(no r)(c:a no=K r)(d:b no=S r):an (no+1) (λi=>bif g_ i no then aX n a b i else h_ 9 (i_ (0+(i-no)*9) [.ab n 1 (ae (K r)),.str (S r 0),.str (S r 1),.str (S r 2),.str (S r 3),.str [48],.str [49],.str [48],.str [49]])) (aX n a b):=λk f σ=>by
 show bt.le σ (bif g_ k no then aX n a b k else h_ 9 (i_ (0+(k-no)*9) (aX n K S r))) (aX n a b k)
 by_cases h:k<no
 ·rw[eV h];exact oM n a b k σ
 ·have:k=no:=by omega
  subst this
  rw[js h,show 0+(k-k)*9=0 by omega]
  have e:aX n a b k=aX n K S r:=by unfold aX;rw[c,d]
  rw[e]
  exact oM n K S r σ
def A0(q)(m n)(K b)(S d)(N)(no)(c)(cE)(i)(a:Nat)(hi:i=(a:Int))(ha:a<m)(k:m<=1000000)(l:N i<=1000000)(hl:eu PP II false (aD II 42 9001) 15 (wP q m n K b S d (N i) i a c 0) (wQ q m n K b S d (N i) i a cE))(c0:(0:Int)=c 0)
  (f:cE<q.top->N (i+1)=N i+1/\b (N i)=K a/\d (N i)=S a) (hn :¬ cE<q.top->N (i+1)=N i) (Q) (hQ:Q):
  kr [j8] [(9001,15,wP q m n K b S d (N i) i i.toNat c 0,wQ q m n K b S d (N i) i i.toNat cE)] 42 5001 13 (SV q m n K b S d N) (λ_=>SX q n b d no) (λj=>j+1) Q i:=by
 rw[uh]
 have e1:u_ i=a:=O
 have o:M m=(m:Int):=rfl
 rw[e1]
 have e:aN a_ (i+1)=true:=aq O O
 have g:(z (N i<=N i)&&true&&true&&z ((N i+1)*152<=140737488355328)&&true)=true:=by rw[bW (dw (N i)),bW O];rfl
 refine Zg (λ_=>?_) O
 refine cC _ _ Y ?_
 by_cases hk:cE<q.top
 ·obtain⟨k1,k2,h⟩:=f hk
  have k1:=k1.symm
  have rows:=AZ n K b S d (N i) a k2 h
  repeat' (first|with_reducible refine Zf A ?_|with_reducible refine YG A ?_|with_reducible refine Zi A ?_|with_reducible refine And.intro ?_ ?_|with_reducible exact bL _ _|with_reducible exact bC _ _|with_reducible exact bO _ _|with_reducible exact eP _ _ _ _|with_reducible exact hQ|with_reducible exact hl|with_reducible refine Zf c0 ?_|with_reducible refine YG k1 ?_|with_reducible refine Zg (λ_=>?_) O|with_reducible refine cC _ _ e ?_|with_reducible refine cC _ _ g ?_|exact rows)
 ·have k1:=(hn hk).symm
  repeat' (with_reducible first|refine Zf A ?_|refine YG A ?_|refine Zi A ?_|refine And.intro ?_ ?_|exact bL _ _|exact bC _ _|exact bO _ _|exact eP _ _ _ _|exact hQ|exact hl|refine Zf c0 ?_|refine YG k1 ?_|refine Zg O (λ_=>?_)|refine cC _ _ e ?_)
def Fq(q)(m n:Nat)(K a)(S b)(N)(no)(c)(cE)(i)(hi:i=(m:Int))(k1:N i=no)(Q):
  kr [j8] [(9001,15,wP q m n K a S b (N i) i i.toNat c 0,wQ q m n K a S b (N i) i i.toNat cE)] 42 5001 13 (SV q m n K a S b N) (λ_=>SX q n a b no) (λj=>j+1) Q i:=by
 rw[uh]
 have d:M m=(m:Int):=rfl
 have hQ:=trivial
 refine Zg O λ_=>?_
 repeat' (with_reducible first|refine Zf A ?_|refine YG A ?_|refine Zi A ?_|refine And.intro ?_ ?_|exact bL _ _|exact bC _ _|exact bO _ _|exact eP _ _ _ _|exact hQ|refine YG k1 ?_)
end
section
open Go.Sort Go.Shelf Go.Proofs
def eQ(p:Nat->Bool)(k j:Nat):Nat:=((j_ k).filter p).getD j 0
def wS{p k m}(a:m<k)(h:p m=true):eQ p k (aP p m)=m:=by
 unfold eQ aP
 obtain⟨r,rfl⟩:∃r,k=m+(r+1):=⟨k-m-1,O⟩
 rw[List.range_add,List.range_succ_eq_map,List.map_cons,List.filter_append,List.filter_cons,Nat.add_zero,h]
 simp
def xY(S:Nat->Nat->List UInt8)(i a:Nat):Bool:=z (bw (ao (S a 0)) (ao (S a 1)) (ao (S i 2)) (ao (S i 3))>0)
def cQ(q:Query)(m:Nat)(S:Nat->Nat->List UInt8)(i:Nat):Bool:=z (((aP (xY S i) m:Nat):Int)<q.top)
def uZ(m:Nat)(S:Nat->Nat->List UInt8):Prop := ∀i,i<m->bJ (S i 0) (S i 1)=true/\bJ (S i 2) (S i 3)=true
def Fs(q)(m n)(K b)(S c)(no)(i)(r)(f:r<m)(g:m<=1000000)(hS:uZ m S):
  eu PP II false (aD II 42 9001) 15 (wP q m n K b S c no i r (λj=>((aP (xY S r) j.toNat:Nat):Int)) 0) (wQ q m n K b S c no i r ((aP (xY S r) m:Nat):Int)):=by
 refine eu.wL [j8] (n:=m) A λj d Q hQ=>?_
 have e1:((j:Int)).toNat=j:=O
 have e:((j:Int)+1).toNat=j+1:=O
 by_cases a:j<m
 ·have k:=jV (xY S r) j
  refine CX q m n K b S c no i r _ _ (j:Int) j A a g ?_ (hS j a).1 (hS r f).2 (λh=>?_) (λh=>?_) _ (hQ a)
  grind
  ·show((aP (xY S r) ((j:Int)+1).toNat:Nat):Int)=((aP (xY S r) ((j:Int)).toNat:Nat):Int)+1
   rw[e1,e,iE (bW h)];rfl
  ·show((aP (xY S r) ((j:Int)+1).toNat:Nat):Int)=((aP (xY S r) ((j:Int)).toNat:Nat):Int)
   rw[e1,e,kO (nZ h)]
 ·have d:j=m:=by omega
  subst d
  refine Ju q j n K b S c no i r _ _ (j:Int) A ?_ _
  rfl
def CY(q)(m n)(K)(S)(d:m<=1000000)(hS:uZ m S):
  eu PP II false (aD II 42 5001) 13 (SV q m n K (λj=>K (eQ (cQ q m S) m j)) S (λj=>S (eQ (cQ q m S) m j)) (λi=>aP (cQ q m S) i.toNat) 0) (SX q n (λj=>K (eQ (cQ q m S) m j)) (λj=>S (eQ (cQ q m S) m j)) (aP (cQ q m S) m)):=by
 have key:=eu.Vk (ι:=Nat) Hs [j8] 1000 (λi=>[(9001,15,wP q m n K (λj=>K (eQ (cQ q m S) m j)) S (λj=>S (eQ (cQ q m S) m j)) (aP (cQ q m S) ((i:Int)).toNat) (i:Int) ((i:Int)).toNat (λj=>((aP (xY S i) j.toNat:Nat):Int)) 0,wQ q m n K (λj=>K (eQ (cQ q m S) m j)) S (λj=>S (eQ (cQ q m S) m j)) (aP (cQ q m S) ((i:Int)).toNat) (i:Int) ((i:Int)).toNat ((aP (xY S i) m:Nat):Int))]) (c:=aD II 42 5001) (ir:=false) 13 (λi=>i<=m) (λi=>SV q m n K (λj=>K (eQ (cQ q m S) m j)) S (λj=>S (eQ (cQ q m S) m j)) (λi=>aP (cQ q m S) i.toNat) (i:Int)) (λ_=>SX q n (λj=>K (eQ (cQ q m S) m j)) (λj=>S (eQ (cQ q m S) m j)) (aP (cQ q m S) m)) (λi=>m-i) (λi=>i+1) 0 A (Nat.zero_le _) λi hi=>?_
 ·exact key
 have hi:i<=m:=hi
 have e1:((i:Int)).toNat=i:=O
 have e:((i:Int)+1).toNat=i+1:=O
 by_cases a:i<m
 ·have f:=jV (cQ q m S) i
  refine A0 q m n K _ S _ (λi=>aP (cQ q m S) i.toNat) _ (λj=>((aP (xY S i) j.toNat:Nat):Int)) _ (i:Int) i A a d ?_ ?_ A (λh=>?_) (λh=>?_) _ Y
  grind
  ·exact Fs q m n K _ S _ _ (i:Int) i a d hS
  ·have b:cQ q m S i=true:=bW h
   show aP (cQ q m S) ((i:Int)+1).toNat=aP (cQ q m S) ((i:Int)).toNat+1/\K (eQ (cQ q m S) m (aP (cQ q m S) ((i:Int)).toNat))=K i/\S (eQ (cQ q m S) m (aP (cQ q m S) ((i:Int)).toNat))=S i
   rw[e1,e,iE b,wS a b]
   simp
  ·have b:cQ q m S i=false:=nZ h
   show aP (cQ q m S) ((i:Int)+1).toNat=aP (cQ q m S) ((i:Int)).toNat
   rw[e1,e,kO b]
 ·have hi:i=m:=by omega
  subst hi
  refine Fq q i n K _ S _ (λj=>aP (cQ q i S) j.toNat) _ _ _ (i:Int) A ?_ _
  rfl
def ju(q:Query)(m:Nat)(S:Nat->Nat->List UInt8):Nat:=if q.top=0 then m else aP (cQ q m S) m
def cS(q:Query)(m:Nat)(S:Nat->Nat->List UInt8)(j:Nat):Nat:=if q.top=0 then j else eQ (cQ q m S) m j
def QH(m n)(K)(S):((j_ m).all λi=>bt.free (aX n K S i))=true:=List.all_eq_true.2 λ_ _=>rfl
def Us{q m n K S}(b:m<=1000000)(hS:uZ m S):
  af PP II 42 [.agg (aY q),.ab m 9 (aX n K S)] HP (.ret (.ab (ju q m S) 9 (aX n (λj=>K (cS q m S j)) λj=>S (cS q m S j))) HP):=by
 refine kz (ks:=[j8]) (T:=[(5001,13,SV q m n K (λj=>K (eQ (cQ q m S) m j)) S (λj=>S (eQ (cQ q m S) m j)) (λi=>aP (cQ q m S) i.toNat) 0,SX q n (λj=>K (eQ (cQ q m S) m j)) (λj=>S (eQ (cQ q m S) m j)) (aP (cQ q m S) m))]) ?_
 rw[Uq]
 have a:aP (cQ q m S) (0:Int).toNat=0:=rfl
 have c:=CY q m n K S b hS
 refine Zg (λh=>?_) λh=>?_
 ·intro σ
  unfold ju cS
  simp only[if_pos h]
  exact⟨rfl,rfl,λi hi=>oM n K S i σ⟩
 ·have hQ:∀σ,s_ σ (.ab (aP (cQ q m S) m) 9 (aX n (λj=>K (eQ (cQ q m S) m j)) λj=>S (eQ (cQ q m S) m j))) (.ab (ju q m S) 9 (aX n (λj=>K (cS q m S j)) λj=>S (cS q m S j))):=λσ=>by
   unfold ju cS
   simp only[if_neg h]
   exact⟨rfl,rfl,λi hi=>oM _ _ _ i σ⟩
  refine⟨c,YG a (YG A ⟨bC _ _,YG A ⟨bO _ _,Zf A (Zf A (Zi A (Zi A (Zf A (YG A ⟨eP _ _ _ _,YG A ⟨eP _ _ _ _,YG a (Zf A (cC _ _ (by rw[QH,bW (dw _)];rfl) hQ))⟩⟩)))))⟩⟩)⟩
end
section
open Go.Sort Go.Shelf Go.Proofs
def QJ(n:Nat)(cs:List AV):Bool:=match cs with
 |[.ab k 1 f,.str _,.str _,.str _,.str _,.str [48],.str [49],.str [48],.str [49]]=>v_ k n&&bA n f
 |_=>false
def wT(n m:Nat)(r:Nat->List AV):Bool:=(j_ m).all λi=>QJ n (r i)
def CZ(r:Nat->List AV)(i k:Nat):Int:=match r i with| .ab _ _ f::_=>aM f k|_=>0
def nV(r:Nat->List AV)(i k:Nat):List UInt8:=match(r i).getD (k+1) .any with| .str s=>s|_=>[]
def G4{n:Nat}{r:Nat->List AV}{i:Nat}(h:QJ n (r i)=true)(σ:Nat->Nat):bt.le σ (r i) (aX n (CZ r) (nV r) i):=by
 unfold QJ at h
 split at h
 ·rename_i k f a b c d e
  simp only[bf]at h
  obtain⟨g,l⟩:=h
  cases dE g
  unfold aX CZ nV
  rw[e]
  exact⟨⟨rfl,rfl,λj m=>by rw[kZ l j m];exact zM _ _ _⟩,rfl,rfl,rfl,rfl,rfl,rfl,rfl,rfl,trivial⟩
 ·cases h
def C0{n m:Nat}{r:Nat->List AV}(h:wT n m r=true):s_ (λl=>l) (.ab m 9 r) (.ab m 9 (aX n (CZ r) (nV r))):=⟨rfl,rfl,λi hi=>G4 (List.all_eq_true.1 h i (List.mem_range.2 hi)) _⟩
def aaK(n m:Nat)(K:Nat->Nat->Int)(S:Nat->Nat->List UInt8):wT n m (aX n K S)=true:=List.all_eq_true.2 λi _=>by
 show(v_ n n&&bA n (ae (K i)))=true
 rw[ni,dy];rfl
def Ft(m:Nat)(S:Nat->Nat->List UInt8):Bool:=(j_ m).all λi=>bJ (S i 0) (S i 1)&&bJ (S i 2) (S i 3)
def QK{m:Nat}{S:Nat->Nat->List UInt8}(h:Ft m S=true):uZ m S:=λi hi=>by
 have:=List.all_eq_true.1 h i (List.mem_range.2 hi)
 simpa only[bf]using this
def WZ:aC PP II:=aC.l8 42
 (λX args b=>match args with
  |[.agg cs,.ab m 9 r]=>match toQ cs with
   |some q=>X.bq (oA cs&&wT q.ng m r&&Ft m (nV r)&&q_ m 1000000) (b (.ab (ju q m (nV r)) 9 (aX q.ng (λj=>CZ r (cS q m (nV r) j)) λj=>nV r (cS q m (nV r) j))))
   |none=>X.fail
  |_=>X.fail)
 λX sem hX args b h=>by
  split at h
  ·split at h
   ·rename_i q hq
    obtain⟨a,c⟩:=hX.bq _ _ h
    simp only[bf]at a
    refine⟨_,c,λ_=>rfl,λσ=>?_,af.dA (Us (n:=q.ng) (K:=CZ _) (jX a.2) (QK a.1.2)) (toQ_le hq a.1.1.1) (C0 a.1.1.2)⟩
    show [AV.bD σ (.agg _),_]=_
    rw[nU hq];rfl
   ·exact zR
  ·exact zR
end
def AH.A1(H:AH)(b)(l):(H.new b).get l=if l=H.n then b else H.get l:=by
 simp only[AH.new,AH.get,Tr.bH]
 grind
def af.fresh{P I f args}{a:Nat->AV}{b}(h:af P I f args (c_ I.G) (.ret (a I.G) ((c_ I.G).new b)))(d:∀σ,bt.bD σ args=args)(ha:∀σ n,(a n).bD σ=a (σ n))(B:∀σ,b.bD σ=b)(H):
  af P I f args H (.ret (a H.n) (H.new b)):=by
 intro c ρ w vs hG s i
 have t:I.G<=H.n:=by
  rw[<-hG]
  refine Nat.le_of_not_lt λj=>?_
  obtain⟨N,q⟩:=i.fp H.n j
  rw[i.top _ (dw _)]at q;cases q
 have u:∀l,(c_ I.G).get l= .dead:=λl=>rfl
 let σ:Nat->Nat:=λl=>if l<I.G then l else H.n+(l-I.G)
 have v:Sub I.G σ (c_ I.G) H :=
  {lt:=λl hl=>by
    have:l<I.G:=hl
    grind
   ge:=λl hl=>by
    have :¬ l<I.G:=Nat.not_lt.2 hl
    simp only[σ,if_neg this];rfl
   same:=Y
   inj:=Y
   fp:=λg y=>⟨y,Y⟩
   low:=λl _=>u l}
 have m:(c_ I.G).n=I.G:=rfl
 have ht:Eb σ (c_ I.G) (CO.ret (a I.G) ((c_ I.G).new b)).heap H (H.new b):=
  {n:=by show H.n+1=H.n+(I.G+1-I.G);omega
   old:=Y
   new:=λl hl=>by
    have hl:I.G<=l:=hl
    have o :¬ l<I.G:=Nat.not_lt.2 hl
    show(H.new b).get (σ l)=(((c_ I.G).new b).get l).bD σ
    rw[AH.A1,AH.A1,m]
    simp only[σ,if_neg o]
    by_cases e:l=I.G
    grind
    ·rw[if_neg O,if_neg e,i.low _ O]
     rfl
   rest:=λl hl _=>by
    rw[AH.A1,if_neg O]}
 have:=h.lift v ht
 rw[d]at this
 have e:(CO.ret (a I.G) ((c_ I.G).new b)).iT σ (H.new b)= .ret (a H.n) (H.new b):=by
  show CO.ret ((a I.G).bD σ) (H.new b)=_
  rw[ha]
  have:σ I.G=H.n:=by simp only[σ,if_neg (HD _)];omega
  rw[this]
 rw[e]at this
 exact this c ρ w vs hG s i
def aC.fresh{P:Program}{I:ba}(f:FuncId)(spec:{R:Type}->RI R->List AV->((Nat->AV)->eT->R)->R)
  (ok:∀{R:Type}(X:RI R)(sem:R->Prop),X.Ok sem->∀args d,sem (spec X args d)->∃a b,sem (d a b)/\(∀σ n,(a n).bD σ=a (σ n))/\(∀σ,b.bD σ=b)/\(∀σ,bt.bD σ args=args)/\af P I f args (c_ I.G) (.ret (a I.G) ((c_ I.G).new b))):aC P I where
 f:=f
 spec X args H d _:=jK X 100000 args H λc H'=>spec X c λa b=>d (a H'.n) (H'.new b)
 ok X sem hX args H d kp h:=by
  obtain⟨c,H',i,j⟩:=gC hX _ _ _ _ h
  obtain⟨a,b,k1,k2,l,m,o⟩:=ok X sem hX _ _ i
  exact⟨.ret (a H'.n) (H'.new b),k1,(o.fresh m k2 l H').nI j⟩
def Jw(n)(C):(jE ([]:List (aC PP II)) (mG PP II []) 1000 146 [.ab n 3 (au C)] (c_ 12) (λb H=>qa 12 b H (.own 12 n 3) ((c_ 12).new (.rows n 3 (au C) (.ty 79))) True) (λ_ _=>False))=(aa (g_ 0 n) (aa (z ((0+n)*24<=140737488355328)&&true) (ah (z (n=0)) (ax n 0 False) (ax (0+n) n (an (0+n) (λi=>bif g_ i 0 then h_ 3 (i_ (0+i*3) [])else au C (i-0)) (au C)/\ax (0+n) n True))))):=U
def Jx{n C}(a:0<n)(b:n<=1000):af PP II 146 [.ab n 3 (au C)] (c_ 12) (.ret (.own 12 n 3) ((c_ 12).new (.rows n 3 (au C) (.ty 79)))):=by
 refine af.GX Hs [] (bm PP II []) 1000 A ((Jw n C).mpr (Ze (eV a) (Ze Y (Zh (λh=>?_) λh=>?_))))
 grind
 ·refine YG (p_ n) ⟨λi hi σ=>?_,YG (p_ n) trivial⟩
  show bt.le σ (bif g_ i 0 then h_ 3 (i_ (0+i*3) [])else au C (i-0)) (au C i)
  rw[js (lZ i),Nat.sub_zero]
  exact bC n C i O σ
def G5:aC PP II:=aC.fresh 146
 (λX args b=>match args with
  |[.ab n 3 f]=>X.bq (aI 3 n f&&g_ 0 n&&q_ n 1000) (b (λl=> .own l n 3) (.rows n 3 (au (bG f)) (.ty 79)))
  |_=>X.fail)
 λX sem hX args b h=>by
  split at h
  ·rename_i n f
   obtain⟨a,c⟩:=hX.bq _ _ h
   simp only[bf,Nat.blt_eq]at a
   refine⟨_,_,c,λ_ _=>rfl,λ_=>rfl,λ_=>rfl,(Jx a.1.2 ZD).dq ⟨⟨rfl,rfl,λi hi=>?_⟩,trivial⟩⟩
   rw[(nP (c7 a.1.1 hi)).1];exact jq (bG f) _ i
  ·exact zR
def cY(q:Query)(x:ay)(j k:Nat):Int:=if j<q.nw then q.C j k else if k=2 then(if j=q.nw then x.l else x.h)else 0
def QM(q:Query)(x:ay)(n:Nat)(a:List (Nat×eT)):AH:={n:=n,t:=n_ ([(0,.cells [.ab 5 2 aA] .ro),(12,.cells (aY q) (.ty 32)),(13,.cells (eD x) (.ty 48)),(14,.cells [.int a_ 0,.int a_ 0,.bool false] (.ty 99))]++a)}
def t100(c:Bool)(a:List (Nat×AV)):Tr AV:=n_ ([(2,.ptr 12 0 0 0),(3,.ptr 13 0 0 0),(4,.ptr 14 0 0 0),(6,.bool c)]++a)
def C1(q:Query)(x:ay)(c:Bool)(D:Nat->Nat->Int)(N:Int->Nat)(V:Nat->Int)(i:Int):St:={t:=t100 c [(11,.own 36 (N i) 1),(44,.own 35 (q.nw+2) 3),(45,.int a_ (M (q.nw+2))),(46,.int a_ i)],nt:=102,H:=QM q x 37 [(35,.rows (q.nw+2) 3 (au D) (.ty 79)),(36,.rows (N i) 1 (ae V) (.ty 3))],df:=[]}
def xZ(q:Query)(x:ay)(c:Bool)(n:Nat)(V:Nat->Int):GE:=.one (.x 0 {t:=t100 c [(11,.own 36 n 1)],nt:=102,H:=QM q x 37 [(36,.rows n 1 (ae V) (.ty 3))],df:=[]})
def oN(q:Query)(x:ay)(c:Bool)(D:Nat->Nat->Int)(N:Int->Nat)(V:Nat->Int)(i a j:Int):St:={t:=t100 c [(11,.own 39 (N j) 1),(44,.own 35 (q.nw+2) 3),(45,.int a_ (M (q.nw+2))),(46,.int a_ i),(58,.slice 38 0 0 3 (some 3) 1),(59,.int a_ 3),(60,.int a_ j)],nt:=102,H:=QM q x 40 [(35,.rows (q.nw+2) 3 (au D) (.ty 79)),(38,.rows 3 1 (ae λk=>a-1+M k) (.ty 3)),(39,.rows (N j) 1 (ae V) (.ty 3))],df:=[]}
def mV(q:Query)(x:ay)(c:Bool)(D:Nat->Nat->Int)(n:Nat)(V:Nat->Int)(i:Int):GE:=.one (.x 2 {t:=t100 c [(11,.own 39 n 1),(44,.own 35 (q.nw+2) 3),(45,.int a_ (M (q.nw+2))),(46,.int a_ i)],nt:=102,H:=QM q x 40 [(35,.rows (q.nw+2) 3 (au D) (.ty 79)),(39,.rows n 1 (ae V) (.ty 3))],df:=[]})
def Yf(q)(x)(c)(D)(N)(V)(n)(i f j)(Q){e}(g:e=(ae λk=>f-1+M k)):(kr [mg] [] 92 11001 39 (oN q x c D N V i f) (λ_=>mV q x c D n V i) (λj=>j+1) Q j)=(ah (z (j<3)) (aa (z (0<=j)&&z (j<3)) (aa (z (0+j.toNat<3)) (aa (oA [e_ q.nw 3 (au q.C),e_ q.ng 1 (aR q.G),b_ a_ q.a,b_ a_ q.fl,f_ q.nu,f_ q.de,b_ a_ q.top]&&Hl {nw:=q.nw,C:=λj k=>bV (au q.C j) k,ng:=q.ng,G:=λj=>q.G j,a:=q.a,fl:=q.fl,nu:=q.nu,de:=q.de,top:=q.top}&&bB x) (ah (z ((match xG x (f-1+M (0+j.toNat))with|true=>((0):Int)|false=>190)=0)) (ah (xG x (f-1+M (0+j.toNat))&&dV {nw:=q.nw,C:=λj k=>bV (au q.C j) k,ng:=q.ng,G:=λj=>q.G j,a:=q.a,fl:=q.fl,nu:=q.nu,de:=q.de,top:=q.top} x (f-1+M (0+j.toNat))) (aa (z (N j<=N j)&&true&&true&&z ((N j+1)*8<=140737488355328)&&true) (aa (aN a_ (j+1)) (ax (N j+1) (N (j+1)) (an (N j+1) (λi=>bif g_ i (N j)then ae V i else h_ 1 (i_ (0+(i-N j)*1) [b_ a_ (f-1+M (0+j.toNat))])) (ae V)/\zyR 3 e (zyN (q.nw+2) (zyR (q.nw+2) (au D) (false=false/\zyI x.t (zyI x.s (zyI x.v (zyI x.w (zyI x.o (zyI x.p (zyI x.d (zyI x.l (zyI x.h (zyI x.b (zyN q.nw (zyR q.nw (au q.C) (zyN q.ng (zyR q.ng (aR q.G) (zyI q.a (zyI q.fl (zyB q.nu (zyB q.de (zyI q.top (zyR 5 aA (ax (N j+1) (N (j+1)) (zyI (M (q.nw+2)) (zyN (q.nw+2) (zyI (j+1) (c=c/\zyI i Q))))))))))))))))))))))))))))))) (aa (aN a_ (j+1)) (ax (N j) (N (j+1)) (zyR (N j) (ae V) (zyR 3 e (zyN (q.nw+2) (zyR (q.nw+2) (au D) (false=false/\zyI x.t (zyI x.s (zyI x.v (zyI x.w (zyI x.o (zyI x.p (zyI x.d (zyI x.l (zyI x.h (zyI x.b (zyN q.nw (zyR q.nw (au q.C) (zyN q.ng (zyR q.ng (aR q.G) (zyI q.a (zyI q.fl (zyB q.nu (zyB q.de (zyI q.top (zyR 5 aA (ax (N j) (N (j+1)) (zyI (M (q.nw+2)) (zyN (q.nw+2) (zyI (j+1) (c=c/\zyI i Q)))))))))))))))))))))))))))))))) (aa (aN a_ (j+1)) (ax (N j) (N (j+1)) (zyR (N j) (ae V) (zyR 3 e (zyN (q.nw+2) (zyR (q.nw+2) (au D) (false=false/\zyI x.t (zyI x.s (zyI x.v (zyI x.w (zyI x.o (zyI x.p (zyI x.d (zyI x.l (zyI x.h (zyI x.b (zyN q.nw (zyR q.nw (au q.C) (zyN q.ng (zyR q.ng (aR q.G) (zyI q.a (zyI q.fl (zyB q.nu (zyB q.de (zyI q.top (zyR 5 aA (ax (N j) (N (j+1)) (zyI (M (q.nw+2)) (zyN (q.nw+2) (zyI (j+1) (c=c/\zyI i Q))))))))))))))))))))))))))))))))))) (ax (N j) n (zyR (N j) (ae V) (zyN (q.nw+2) (zyR (q.nw+2) (au D) (false=false/\zyI x.t (zyI x.s (zyI x.v (zyI x.w (zyI x.o (zyI x.p (zyI x.d (zyI x.l (zyI x.h (zyI x.b (zyN q.nw (zyR q.nw (au q.C) (zyN q.ng (zyR q.ng (aR q.G) (zyI q.a (zyI q.fl (zyB q.nu (zyB q.de (zyI q.top (zyR 5 aA (ax (N j) n (zyI (M (q.nw+2)) (zyN (q.nw+2) (c=c/\zyI i True))))))))))))))))))))))))))))):=by subst_vars;kernel_rfl
def wU(q)(x)(c)(D)(N)(f)(V)(n e)(i)(Q):(kr [mg] [(11001,39,oN q x c D f V i (D i.toNat 2) 0,mV q x c D e V i)] 92 8001 36 (C1 q x c D N V) (λ_=>xZ q x c n V) (λj=>j+1) Q i)=(ah (z (i<M (q.nw+2))) (aa (z (0<=i)&&z (i<M (q.nw+2))) (aa (z (i.toNat<q.nw+2)) (aa (aN a_ (D i.toNat 2-1)) (aa (aN a_ (D i.toNat 2+1)) (eu PP II false (aD II 92 11001) 39 (oN q x c D f V i (D i.toNat 2) 0) (mV q x c D e V i)/\ax (N i) (f 0) (zyR (N i) (ae V) (an 3 (fW [b_ a_ (D i.toNat 2-1),b_ a_ (D i.toNat 2),b_ a_ (D i.toNat 2+1)] 1) (ae λk=>D i.toNat 2-1+M k)/\zyN (q.nw+2) (zyR (q.nw+2) (au D) (false=false/\zyI x.t (zyI x.s (zyI x.v (zyI x.w (zyI x.o (zyI x.p (zyI x.d (zyI x.l (zyI x.h (zyI x.b (zyN q.nw (zyR q.nw (au q.C) (zyN q.ng (zyR q.ng (aR q.G) (zyI q.a (zyI q.fl (zyB q.nu (zyB q.de (zyI q.top (zyR 5 aA (ax (N i) (f 0) (zyI (M (q.nw+2)) (zyN (q.nw+2) (c=c/\zyI i (aa (aN a_ (i+1)) (ax e (N (i+1)) (zyR e (ae V) (zyN (q.nw+2) (zyR (q.nw+2) (au D) (false=false/\zyI x.t (zyI x.s (zyI x.v (zyI x.w (zyI x.o (zyI x.p (zyI x.d (zyI x.l (zyI x.h (zyI x.b (zyN q.nw (zyR q.nw (au q.C) (zyN q.ng (zyR q.ng (aR q.G) (zyI q.a (zyI q.fl (zyB q.nu (zyB q.de (zyI q.top (zyR 5 aA (ax e (N (i+1)) (zyI (M (q.nw+2)) (zyN (q.nw+2) (c=c/\zyI (i+1) Q))))))))))))))))))))))))))))))))))))))))))))))))))))))))))))) (ax (N i) n (zyR (N i) (ae V) (false=false/\zyI x.t (zyI x.s (zyI x.v (zyI x.w (zyI x.o (zyI x.p (zyI x.d (zyI x.l (zyI x.h (zyI x.b (zyN q.nw (zyR q.nw (au q.C) (zyN q.ng (zyR q.ng (aR q.G) (zyI q.a (zyI q.fl (zyB q.nu (zyB q.de (zyI q.top (zyR 5 aA (ax (N i) n (c=c/\True))))))))))))))))))))))))):=U
def ND(q)(x)(c)(D)(N)(V)(n)(Q){e}(k:e=(jA {nw:=q.nw,C:=bG (au q.C),ng:=q.ng,G:=λj=>q.G j,a:=q.a,fl:=q.fl,nu:=q.nu,de:=q.de,top:=q.top} x)){f}(m:f=(t_ (List.range.loop n []) λi=>true)){g}(r:g=(f&&q_ n 1000000000000&&g_ 0 n)):(ko [WV,mg,G5,SJ,Mo] [(8001,36,C1 q x c D N V 0,xZ q x c n V)] 92 [.agg (aY q),.agg (eD x)] Q)=(aa (aI 3 q.nw (au q.C)&&aI 1 q.ng (aR q.G)) (aa (Hl {nw:=q.nw,C:=bG (au q.C),ng:=q.ng,G:=λj=>q.G j,a:=q.a,fl:=q.fl,nu:=q.nu,de:=q.de,top:=q.top}) (aa (bB x) (ah (!gk {nw:=q.nw,C:=bG (au q.C),ng:=q.ng,G:=λj=>q.G j,a:=q.a,fl:=q.fl,nu:=q.nu,de:=q.de,top:=q.top} x) (eT.cells [e_ 5 2 aA] Access.ro=eT.cells [e_ 5 2 aA] Access.ro/\Q (o_ [m_ [b_ a_ 0,b_ a_ 0,d_ false],d_ false])) (ah (!jA {nw:=q.nw,C:=bG (au q.C),ng:=q.ng,G:=λj=>q.G j,a:=q.a,fl:=q.fl,nu:=q.nu,de:=q.de,top:=q.top} x) (aa (aI 3 q.nw (au q.C)&&g_ 0 q.nw&&q_ q.nw 1000) (aa (z (x.l=x.l)) (aa (z (x.h=x.h)) (aa (z (q.nw<=q.nw)&&true&&true&&z ((q.nw+2)*24<=140737488355328)&&true) (eu PP II false (aD II 92 8001) 36 (C1 q x c D N V 0) (xZ q x c n V)/\ax (N 0) 0 (zyN (q.nw+2) (an (q.nw+2) (λi=>bif g_ i q.nw then au (bG (au q.C)) i else h_ 3 (i_ (0+(i-q.nw)*3) [b_ a_ 0,b_ a_ 0,b_ a_ x.l,b_ a_ 0,b_ a_ 0,b_ a_ x.h])) (au D)/\false=false/\zyI x.t (zyI x.s (zyI x.v (zyI x.w (zyI x.o (zyI x.p (zyI x.d (zyI x.l (zyI x.h (zyI x.b (zyN q.nw (zyR q.nw (au q.C) (zyN q.ng (zyR q.ng (aR q.G) (zyI q.a (zyI q.fl (zyB q.nu (zyB q.de (zyI q.top (zyR 5 aA (ax (N 0) 0 (zyI (M (q.nw+2)) (zyN (q.nw+2) (jA {nw:=q.nw,C:=bG (au q.C),ng:=q.ng,G:=λj=>q.G j,a:=q.a,fl:=q.fl,nu:=q.nu,de:=q.de,top:=q.top} x=c/\aa (f&&z (n<=n)) (aa g (aa (f&&z (n<=n)) (aa g (ah (z (q.a=1)) (eT.cells [e_ 5 2 aA] Access.ro=eT.cells [e_ 5 2 aA] Access.ro/\Q (o_ [m_ [b_ a_ 1,b_ a_ 1,d_ c],d_ true])) (ah (z (q.fl=7)) (eT.cells [e_ 5 2 aA] Access.ro=eT.cells [e_ 5 2 aA] Access.ro/\Q (o_ [m_ [b_ a_ x.b,b_ a_ x.b,d_ c],d_ true])) (eT.cells [e_ 5 2 aA] Access.ro=eT.cells [e_ 5 2 aA] Access.ro/\Q (o_ [m_ [b_ a_ (jc (λi=>V i) n),b_ a_ (cG (λi=>V i) n),d_ c],d_ true]))))))))))))))))))))))))))))))))))))) (ah (z (q.a=1)) (eT.cells [e_ 5 2 aA] Access.ro=eT.cells [e_ 5 2 aA] Access.ro/\Q (o_ [m_ [b_ a_ 1,b_ a_ 1,d_ e],d_ true])) (ah (z (q.fl=7)) (eT.cells [e_ 5 2 aA] Access.ro=eT.cells [e_ 5 2 aA] Access.ro/\Q (o_ [m_ [b_ a_ x.b,b_ a_ x.b,d_ e],d_ true])) (eT.cells [e_ 5 2 aA] Access.ro=eT.cells [e_ 5 2 aA] Access.ro/\Q (o_ [m_ [b_ a_ x.l,b_ a_ x.h,d_ e],d_ true]))))))))):=by subst_vars;kernel_rfl
def ya{cs:List AV}{n e:Nat}(a:0<e)(hl:cs.length=n*e):rowsOf n (fW cs e)=cs:=by
 have:=iP (cs:=cs) (o:=0) a (n:=n) O
 simp only[p_,List.drop_zero]at this
 unfold fW
 rw[this,<-hl,List.take_length]
def Rel.cut{c:fw}{ρ:Env}{H:AH}{w:World}{a n e t:Nat}{cs:List AV}(h:Rel c ρ H w)(m:H.get a= .cells cs (.ty t))(hl:cs.length=n*e)(v:0<e):Rel c ρ (H.set a (.rows n e (fW cs e) (.ty t))) w:=by
 have gs:∀l,(H.set a (.rows n e (fW cs e) (.ty t))).get l=if l=a then .rows n e (fW cs e) (.ty t)else H.get l:=λl=>AH.bH H a l _
 have d:∀l,((H.set a (.rows n e (fW cs e) (.ty t))).get l).rw=(H.get l).rw:=λl=>by
  rw[gs]
  by_cases e1:l=a
  ·rw[if_pos e1,e1,m];rfl
  ·rw[if_neg e1]
 have y:∀l,(H.set a (.rows n e (fW cs e) (.ty t))).get l≠ .dead->H.get l≠ .dead:=λl=>by
  rw[gs]
  by_cases e1:l=a
  ·rw[if_pos e1,e1,m];exactλ_ B=>by cases B
  ·rw[if_neg e1];exact id
 have j:∀l,H.get l= .dead->(H.set a (.rows n e (fW cs e) (.ty t))).get l= .dead:=λl hl=>by
  rw[gs]
  by_cases e1:l=a
  ·rw[e1,m]at hl;cases hl
  ·rw[if_neg e1];exact hl
 refine⟨λl=>?_,λl s r N C o b f D=>?_,λl r N b f=>?_,h.gH,h.size,h.os,h.output,h.tape,h.top,h.fp,λl r N q f=>h.hid l r N (y l q) f,h.env,λl hl=>j l (h.low l hl),h.qY,λl r N b f=>?_,h.xw,h.qZ⟩
 ·rw[gs]
  by_cases e1:l=a
  ·subst e1
   rw[if_pos A]
   have u:=h.dF l
   rw[m]at u
   refine⟨λi hi=>?_,?_⟩
   ·simp only[fW,List.length_take,List.length_drop]
    have:i*e+e<=n*e:=by
     have:=Nat.mul_le_mul_right e (show i+1<=n from hi)
     rw[Nat.add_mul,Nat.one_mul]at this;exact this
    omega
   ·rw[ya v hl];exact u
  ·rw[if_neg e1];exact h.dF l
 ·rw[d]at b
  exact j s (h.sep l s r N C o b f D)
 ·rw[d]at b;exact h.gL l r N b f
 ·rw[d]at b;exact h.pV l r N b f
def af.cut{f:FuncId}{args:List AV}{H H1 H':AH}{a:AV}{d n e t:Nat}{cs:List AV}(j:H.get d= .cells cs (.ty t))(hl:cs.length=n*e)(l:0<e)
  (h:af PP II f args (H.set d (.rows n e (fW cs e) (.ty t))) (.ret a H1)) (hn:H'.n=H1.n) (m:∀i,H'.get i=H1.get i):af PP II f args H (.ret a H'):=by
 intro c ρ w vs hG o q
 have post:∀e w',(CO.ret a H1).post c ρ e w'->(CO.ret a H').post c ρ e w':=λe w' b=>by
  cases e with
  |returned v=>obtain⟨ρ',k1,k2,s⟩:=b;exact⟨ρ',k1,k2.congr hn m,s⟩
  |panicked u=>exact b.elim
  |outgrown=>exact b.elim
 rcases h c ρ w vs hG o (q.cut j hl l)with⟨k1,k2⟩|⟨v,w',k1,k2⟩
 ·exact .inl ⟨k1,k2.mono λe w'=>post e w'⟩
 ·exact .inr ⟨v,w',k1,post _ _ k2⟩
end
end Go.Sx
