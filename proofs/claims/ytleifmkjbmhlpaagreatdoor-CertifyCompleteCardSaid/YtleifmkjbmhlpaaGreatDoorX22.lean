/- The proof of a statement of the seat, part 22. -/
import Derived.Test.YtleifmkjbmhlpaaGreatDoorX19
import Derived.Test.YtleifmkjbmhlpaaGreatDoorX21
set_option linter.all false
set_option linter.defProp false
set_option maxRecDepth 1000000
namespace Go.Sx
open Go
open AV renaming int->M,ptr->e_,str->g_,ae->i_,agg->j_,own->q_,aD->s_
open Option renaming none->z,some->b_
open Go.IntKind renaming i64->a_
open Int renaming tdiv->c_,toNat->f_,ofNat->h_,tmod->o_,fdiv->p_,pow->r_
open Decidable renaming decide->d_
open List renaming all->k_,take->m_,drop->n_
noncomputable section
structure Query where
 (nw:Nat) (C:Nat->Nat->Int) (ng:Nat) (G:Nat->Int) (a fl:Int) (nu de:List UInt8) (top:Int)
def aN(G:Nat->Int)(j:Nat):List AV:=[.int a_ (G j)]
def aZ(q:Query):List AV:=[.ae q.nw 3 (av q.C),.ae q.ng 1 (aN q.G),.int a_ q.a,.int a_ q.fl,.str q.nu,.str q.de,.int a_ q.top]
def aaq:List AV:=[.aD,.aD,.int a_ 0,.int a_ 0,.str [],.str [],.int a_ 0]
def Nt(n0:Nat)(nw:Nat)(C:Nat->Nat->Int)(a fl:Int)(nu de:List UInt8)(g top:Int)(f:Int)(m:Nat)(G:Nat->Int):St :=
 {t:=Tr.ofList [(2,.int a_ g),(3,.int a_ top),(8,.ptr 12 0 0 0),(9,.ptr 13 0 0 0),(12,.int a_ f)],nt:=72,H:={n:=n0+1,t:=Tr.ofList [(12,.cells aaq (.ty 34)),(13,.cells [.ae nw 3 (av C),.own n0 m 1,.int a_ a,.int a_ fl,.str nu,.str de,.int a_ 0] (.ty 34)),(n0,.rows m 1 (aN G) (.ty 3))]},df:=[]}
def G7(n0:Nat)(nw:Nat)(C:Nat->Nat->Int)(a fl:Int)(nu de:List UInt8)(g top:Int)(f:Int)(m:Nat)(G:Nat->Int):GE:=.one (.x 0 (Nt n0 nw C a fl nu de g top f m G))
structure Grp where
 (f:Int) (m:Nat) (G:Nat->Int)
def IQ(nw)(C)(a fl)(nu de)(g top)(f)(m)(G)(d)(b)(e)(j)(h)(k)(Q):(kr [jC] [] 30 9002 14 (λp:Grp=>Nt 14 nw C a fl nu de g top p.f p.m p.G) (λ_=>G7 14 nw C a fl nu de g top j h k) (λ_=>⟨d,b,e⟩) Q ⟨f,m,G⟩)=(let c:=(B (aJ a_ (f+1)) (bh m b (an m (aN G) (aN e)/\zyN nw (zyR nw (av C) (bh m b (zyI a (zyI fl (zyB nu (zyB de (zyB [] (zyB [] (zyI top (aS (f+1) d (zyI g Q))))))))))))));(ak (d_ (f<=6)) (B (aJ a_ g&&true) (B (aJ a_ (f-1)) (B (d_ (0<=f-1)) (ak (d_ (o_ (p_ (aj g 64) (r_ 2 (if f_ (f-1)<=64 then f_ (f-1)else 64))) 2=1)) (ak (d_ (h_ m<3)) (B (d_ (m<=m)&&true&&true&&d_ ((m+1)*8<=140737488355328)&&true) (B (aJ a_ (f+1)) (bh (m+1) b (an (m+1) (λi=>bif Nat.blt i m then aN G i else m_ 1 (n_ (0+(i-m)*1) [M a_ f])) (aN e)/\zyN nw (zyR nw (av C) (bh (m+1) b (zyI a (zyI fl (zyB nu (zyB de (zyB [] (zyB [] (zyI top (aS (f+1) d (zyI g Q))))))))))))))) c) c)))) (bh m h (an m (aN G) (aN k)/\zyN nw (zyR nw (av C) (bh m h (zyI a (zyI fl (zyB nu (zyB de (zyB [] (zyB [] (zyI top (aS f j (zyI g True))))))))))))))):=U
def FF(nw)(C)(a fl)(nu de)(g top)(f)(m)(G)(d)(b)(e)(j)(h)(k)(Q):(kr [jC] [] 30 9002 15 (λp:Grp=>Nt 15 nw C a fl nu de g top p.f p.m p.G) (λ_=>G7 15 nw C a fl nu de g top j h k) (λ_=>⟨d,b,e⟩) Q ⟨f,m,G⟩)=(let c:=(B (aJ a_ (f+1)) (bh m b (an m (aN G) (aN e)/\zyN nw (zyR nw (av C) (bh m b (zyI a (zyI fl (zyB nu (zyB de (zyB [] (zyB [] (zyI top (aS (f+1) d (zyI g Q))))))))))))));(ak (d_ (f<=6)) (B (aJ a_ g&&true) (B (aJ a_ (f-1)) (B (d_ (0<=f-1)) (ak (d_ (o_ (p_ (aj g 64) (r_ 2 (if f_ (f-1)<=64 then f_ (f-1)else 64))) 2=1)) (ak (d_ (h_ m<3)) (B (d_ (m<=m)&&true&&true&&d_ ((m+1)*8<=140737488355328)&&true) (B (aJ a_ (f+1)) (bh (m+1) b (an (m+1) (λi=>bif Nat.blt i m then aN G i else m_ 1 (n_ (0+(i-m)*1) [M a_ f])) (aN e)/\zyN nw (zyR nw (av C) (bh (m+1) b (zyI a (zyI fl (zyB nu (zyB de (zyB [] (zyB [] (zyI top (aS (f+1) d (zyI g Q))))))))))))))) c) c)))) (bh m h (an m (aN G) (aN k)/\zyN nw (zyR nw (av C) (bh m h (zyI a (zyI fl (zyB nu (zyB de (zyB [] (zyB [] (zyI top (aS f j (zyI g True))))))))))))))):=U
def RV(n)(X C)(nw)(agg g top a fl)(c)(o m)(Q):(kb [DB,jC,KU] [(9002,14,Nt 14 nw C a fl [] [] g top 1 0 o,G7 14 nw C a fl [] [] g top 7 c m)] 30 [.int a_ agg,Zz n X,.int a_ g,.int a_ top] Q)=(let b:=(aae.cells [s_,s_,M a_ 0,M a_ 0,g_ [],g_ [],M a_ 0] (Access.ty 34));let k:=(zyB [] (zyB [] (zyB [] (zyB [] (zyI top (zyI g (ak (d_ (h_ c>0)) (B (aJ a_ top&&true) (B ((k_ (List.range.loop c []) λi=>true)&&d_ (c<=c)) (Q (j_ [i_ nw 3 (av C),i_ c 1 (aN m),M a_ a,M a_ fl,g_ [],g_ [],M a_ (aj top 5)])))) (B ((k_ (List.range.loop c []) λi=>true)&&d_ (c<=c)) (Q (j_ [i_ nw 3 (av C),i_ c 1 (aN m),M a_ a,M a_ fl,g_ [],g_ [],M a_ 0]))))))))));let d:=(aae.cells [i_ nw 3 (av C),q_ 14 c 1,M a_ a,M a_ fl,g_ [],g_ [],M a_ 0] (Access.ty 34));let f:=(aae.cells [i_ nw 3 (av C),q_ 14 0 1,M a_ a,M a_ fl,g_ [],g_ [],M a_ 0] (Access.ty 34));let h:=(aae.rows c 1 (aN m) (Access.ty 3));let j:=(aae.rows 0 1 (aN o) (Access.ty 3));let l:=(d_ (0<=aj (c_ agg 10) 11)&&d_ (aj (c_ agg 10) 11<=10)&&true);(B (ar 3 n (av X)) (B (aJ a_ agg&&true) (B (aJ a_ (1+aj agg 5)) (ak (d_ (1+aj agg 5>1)) (B (aJ a_ (c_ agg 5)) (B (aJ a_ (c_ agg 5)&&true) (B (aJ a_ (7+aj (c_ agg 5) 2)) (ak (d_ (1+aj agg 5=5)) (B (aJ a_ (c_ agg 10)) (B (aJ a_ (c_ agg 10)&&true) (B l (ay PP II false (az II 30 9002) 14 {t:=.n (.n (.n .e (b_ (M a_ top)) .e) z (.n (.n .e (b_ (e_ 13 0 0 0)) .e) z .e)) z (.n (.n (.n .e (b_ (e_ 12 0 0 0)) .e) z (.n .e (b_ (M a_ 1)) .e)) (b_ (M a_ g)) .e),nt:=72,H:={n:=15,t:=.n (.n .e z (.n .e z (.n .e (b_ f) .e))) z (.n (.n .e z (.n .e (b_ b) .e)) z (.n .e z (.n .e (b_ j) .e)))},df:=[]} (GE.one (aK.x 0 {t:=.n (.n (.n .e (b_ (M a_ top)) .e) z (.n (.n .e (b_ (e_ 13 0 0 0)) .e) z .e)) z (.n (.n (.n .e (b_ (e_ 12 0 0 0)) .e) z (.n .e (b_ (M a_ 7)) .e)) (b_ (M a_ g)) .e),nt:=72,H:={n:=15,t:=.n (.n .e z (.n .e z (.n .e (b_ d) .e))) z (.n (.n .e z (.n .e (b_ b) .e)) z (.n .e z (.n .e (b_ h) .e)))},df:=[]}))/\False)))) (ay PP II false (az II 30 9002) 14 {t:=.n (.n (.n .e (b_ (M a_ top)) .e) z (.n (.n .e (b_ (e_ 13 0 0 0)) .e) z .e)) z (.n (.n (.n .e (b_ (e_ 12 0 0 0)) .e) z (.n .e (b_ (M a_ 1)) .e)) (b_ (M a_ g)) .e),nt:=72,H:={n:=15,t:=.n (.n .e z (.n .e z (.n .e (b_ f) .e))) z (.n (.n .e z (.n .e (b_ b) .e)) z (.n .e z (.n .e (b_ j) .e)))},df:=[]} (GE.one (aK.x 0 {t:=.n (.n (.n .e (b_ (M a_ top)) .e) z (.n (.n .e (b_ (e_ 13 0 0 0)) .e) z .e)) z (.n (.n (.n .e (b_ (e_ 12 0 0 0)) .e) z (.n .e (b_ (M a_ 7)) .e)) (b_ (M a_ g)) .e),nt:=72,H:={n:=15,t:=.n (.n .e z (.n .e z (.n .e (b_ d) .e))) z (.n (.n .e z (.n .e (b_ b) .e)) z (.n .e z (.n .e (b_ h) .e)))},df:=[]}))/\bh (min n 6) nw (an (min n 6) (av (cN (aF (av X)))) (av C)/\aS (1+aj agg 5) a (aS (7+aj (c_ agg 5) 2) fl k))))))) (ak (d_ (1+aj agg 5=5)) (B (aJ a_ (c_ agg 10)) (B (aJ a_ (c_ agg 10)&&true) (B l (ay PP II false (az II 30 9002) 14 {t:=.n (.n (.n .e (b_ (M a_ top)) .e) z (.n (.n .e (b_ (e_ 13 0 0 0)) .e) z .e)) z (.n (.n (.n .e (b_ (e_ 12 0 0 0)) .e) z (.n .e (b_ (M a_ 1)) .e)) (b_ (M a_ g)) .e),nt:=72,H:={n:=15,t:=.n (.n .e z (.n .e z (.n .e (b_ f) .e))) z (.n (.n .e z (.n .e (b_ b) .e)) z (.n .e z (.n .e (b_ j) .e)))},df:=[]} (GE.one (aK.x 0 {t:=.n (.n (.n .e (b_ (M a_ top)) .e) z (.n (.n .e (b_ (e_ 13 0 0 0)) .e) z .e)) z (.n (.n (.n .e (b_ (e_ 12 0 0 0)) .e) z (.n .e (b_ (M a_ 7)) .e)) (b_ (M a_ g)) .e),nt:=72,H:={n:=15,t:=.n (.n .e z (.n .e z (.n .e (b_ d) .e))) z (.n (.n .e z (.n .e (b_ b) .e)) z (.n .e z (.n .e (b_ h) .e)))},df:=[]}))/\False)))) (ay PP II false (az II 30 9002) 14 {t:=.n (.n (.n .e (b_ (M a_ top)) .e) z (.n (.n .e (b_ (e_ 13 0 0 0)) .e) z .e)) z (.n (.n (.n .e (b_ (e_ 12 0 0 0)) .e) z (.n .e (b_ (M a_ 1)) .e)) (b_ (M a_ g)) .e),nt:=72,H:={n:=15,t:=.n (.n .e z (.n .e z (.n .e (b_ f) .e))) z (.n (.n .e z (.n .e (b_ b) .e)) z (.n .e z (.n .e (b_ j) .e)))},df:=[]} (GE.one (aK.x 0 {t:=.n (.n (.n .e (b_ (M a_ top)) .e) z (.n (.n .e (b_ (e_ 13 0 0 0)) .e) z .e)) z (.n (.n (.n .e (b_ (e_ 12 0 0 0)) .e) z (.n .e (b_ (M a_ 7)) .e)) (b_ (M a_ g)) .e),nt:=72,H:={n:=15,t:=.n (.n .e z (.n .e z (.n .e (b_ d) .e))) z (.n (.n .e z (.n .e (b_ b) .e)) z (.n .e z (.n .e (b_ h) .e)))},df:=[]}))/\bh (min n 6) nw (an (min n 6) (av (cN (aF (av X)))) (av C)/\aS (1+aj agg 5) a (aS 0 fl k))))))))):=U
def Nu(n)(X C)(nw)(agg g top a fl)(nu de)(c)(o m)(Q):(kb [DB,jC,KU] [(9002,15,Nt 15 nw C a fl nu de g top 1 0 o,G7 15 nw C a fl nu de g top 7 c m)] 30 [.int a_ agg,Zz n X,.int a_ g,.int a_ top] Q)=(let b:=(aae.cells [s_,s_,M a_ 0,M a_ 0,g_ [],g_ [],M a_ 0] (Access.ty 34));let k:=(eX (zj (f_ (aj (c_ agg 10) 11))) nu (eX (zk (f_ (aj (c_ agg 10) 11))) de (zyB [] (zyB [] (zyI top (zyI g (ak (d_ (h_ c>0)) (B (aJ a_ top&&true) (B ((k_ (List.range.loop c []) λi=>true)&&d_ (c<=c)) (Q (j_ [i_ nw 3 (av C),i_ c 1 (aN m),M a_ a,M a_ fl,g_ nu,g_ de,M a_ (aj top 5)])))) (B ((k_ (List.range.loop c []) λi=>true)&&d_ (c<=c)) (Q (j_ [i_ nw 3 (av C),i_ c 1 (aN m),M a_ a,M a_ fl,g_ nu,g_ de,M a_ 0]))))))))));let d:=(aae.cells [i_ nw 3 (av C),q_ 15 c 1,M a_ a,M a_ fl,g_ nu,g_ de,M a_ 0] (Access.ty 34));let f:=(aae.cells [i_ nw 3 (av C),q_ 15 0 1,M a_ a,M a_ fl,g_ nu,g_ de,M a_ 0] (Access.ty 34));let h:=(aae.rows c 1 (aN m) (Access.ty 3));let j:=(aae.rows 0 1 (aN o) (Access.ty 3));let l:=(d_ (0<=aj (c_ agg 10) 11)&&d_ (aj (c_ agg 10) 11<=10)&&true);(B (ar 3 n (av X)) (B (aJ a_ agg&&true) (B (aJ a_ (1+aj agg 5)) (ak (d_ (1+aj agg 5>1)) (B (aJ a_ (c_ agg 5)) (B (aJ a_ (c_ agg 5)&&true) (B (aJ a_ (7+aj (c_ agg 5) 2)) (ak (d_ (1+aj agg 5=5)) (B (aJ a_ (c_ agg 10)) (B (aJ a_ (c_ agg 10)&&true) (B l (ay PP II false (az II 30 9002) 15 {t:=.n (.n (.n .e (b_ (M a_ top)) .e) z (.n (.n .e (b_ (e_ 13 0 0 0)) .e) z .e)) z (.n (.n (.n .e (b_ (e_ 12 0 0 0)) .e) z (.n .e (b_ (M a_ 1)) .e)) (b_ (M a_ g)) .e),nt:=72,H:={n:=16,t:=.n (.n (.n (.n (.n .e (b_ j) .e) z .e) z .e) z (.n .e z (.n .e (b_ f) .e))) z (.n (.n .e z (.n .e (b_ b) .e)) z .e)},df:=[]} (GE.one (aK.x 0 {t:=.n (.n (.n .e (b_ (M a_ top)) .e) z (.n (.n .e (b_ (e_ 13 0 0 0)) .e) z .e)) z (.n (.n (.n .e (b_ (e_ 12 0 0 0)) .e) z (.n .e (b_ (M a_ 7)) .e)) (b_ (M a_ g)) .e),nt:=72,H:={n:=16,t:=.n (.n (.n (.n (.n .e (b_ h) .e) z .e) z .e) z (.n .e z (.n .e (b_ d) .e))) z (.n (.n .e z (.n .e (b_ b) .e)) z .e)},df:=[]}))/\bh (min n 6) nw (an (min n 6) (av (cN (aF (av X)))) (av C)/\aS (1+aj agg 5) a (aS (7+aj (c_ agg 5) 2) fl k)))))) (ay PP II false (az II 30 9002) 15 {t:=.n (.n (.n .e (b_ (M a_ top)) .e) z (.n (.n .e (b_ (e_ 13 0 0 0)) .e) z .e)) z (.n (.n (.n .e (b_ (e_ 12 0 0 0)) .e) z (.n .e (b_ (M a_ 1)) .e)) (b_ (M a_ g)) .e),nt:=72,H:={n:=16,t:=.n (.n (.n (.n (.n .e (b_ j) .e) z .e) z .e) z (.n .e z (.n .e (b_ f) .e))) z (.n (.n .e z (.n .e (b_ b) .e)) z .e)},df:=[]} (GE.one (aK.x 0 {t:=.n (.n (.n .e (b_ (M a_ top)) .e) z (.n (.n .e (b_ (e_ 13 0 0 0)) .e) z .e)) z (.n (.n (.n .e (b_ (e_ 12 0 0 0)) .e) z (.n .e (b_ (M a_ 7)) .e)) (b_ (M a_ g)) .e),nt:=72,H:={n:=16,t:=.n (.n (.n (.n (.n .e (b_ h) .e) z .e) z .e) z (.n .e z (.n .e (b_ d) .e))) z (.n (.n .e z (.n .e (b_ b) .e)) z .e)},df:=[]}))/\False))))) (ak (d_ (1+aj agg 5=5)) (B (aJ a_ (c_ agg 10)) (B (aJ a_ (c_ agg 10)&&true) (B l (ay PP II false (az II 30 9002) 15 {t:=.n (.n (.n .e (b_ (M a_ top)) .e) z (.n (.n .e (b_ (e_ 13 0 0 0)) .e) z .e)) z (.n (.n (.n .e (b_ (e_ 12 0 0 0)) .e) z (.n .e (b_ (M a_ 1)) .e)) (b_ (M a_ g)) .e),nt:=72,H:={n:=16,t:=.n (.n (.n (.n (.n .e (b_ j) .e) z .e) z .e) z (.n .e z (.n .e (b_ f) .e))) z (.n (.n .e z (.n .e (b_ b) .e)) z .e)},df:=[]} (GE.one (aK.x 0 {t:=.n (.n (.n .e (b_ (M a_ top)) .e) z (.n (.n .e (b_ (e_ 13 0 0 0)) .e) z .e)) z (.n (.n (.n .e (b_ (e_ 12 0 0 0)) .e) z (.n .e (b_ (M a_ 7)) .e)) (b_ (M a_ g)) .e),nt:=72,H:={n:=16,t:=.n (.n (.n (.n (.n .e (b_ h) .e) z .e) z .e) z (.n .e z (.n .e (b_ d) .e))) z (.n (.n .e z (.n .e (b_ b) .e)) z .e)},df:=[]}))/\bh (min n 6) nw (an (min n 6) (av (cN (aF (av X)))) (av C)/\aS (1+aj agg 5) a (aS 0 fl k)))))) (ay PP II false (az II 30 9002) 15 {t:=.n (.n (.n .e (b_ (M a_ top)) .e) z (.n (.n .e (b_ (e_ 13 0 0 0)) .e) z .e)) z (.n (.n (.n .e (b_ (e_ 12 0 0 0)) .e) z (.n .e (b_ (M a_ 1)) .e)) (b_ (M a_ g)) .e),nt:=72,H:={n:=16,t:=.n (.n (.n (.n (.n .e (b_ j) .e) z .e) z .e) z (.n .e z (.n .e (b_ f) .e))) z (.n (.n .e z (.n .e (b_ b) .e)) z .e)},df:=[]} (GE.one (aK.x 0 {t:=.n (.n (.n .e (b_ (M a_ top)) .e) z (.n (.n .e (b_ (e_ 13 0 0 0)) .e) z .e)) z (.n (.n (.n .e (b_ (e_ 12 0 0 0)) .e) z (.n .e (b_ (M a_ 7)) .e)) (b_ (M a_ g)) .e),nt:=72,H:={n:=16,t:=.n (.n (.n (.n (.n .e (b_ h) .e) z .e) z .e) z (.n .e z (.n .e (b_ d) .e))) z (.n (.n .e z (.n .e (b_ b) .e)) z .e)},df:=[]}))/\False))))))):=U
def pZ(G)(σ)(j):bj.le σ (aN G j) (aN G j):=⟨⟨rfl,rfl⟩,trivial⟩
def dJ(n)(G):an n (aN G) (aN G):=aaX λσ j=>pZ G σ j
def RW{m g G}(h:∀j,j<m->g j=aN G j):an m g (aN G):=λj a σ=>by rw[h j a];exact pZ G σ j
def vM(p:Int)(k:Nat):Bool:=d_ (o_ (p_ p (r_ 2 k)) 2=1)
def bL(p:Int):Nat->List Int
 |0=>[]
 |k+1=>match vM p k&&d_ ((bL p k).length<3)with|true=>bL p k++[(k:Int)+1]|false=>bL p k
def gT(p:Int)(k:Nat)(j:Nat):Int:=(bL p k).getD j 0
def uD(p):∀k,(bL p k).length<=3
 |0=>by simp[bL]
 |k+1=>by
  have:=uD p k;unfold bL
  grind
def RX{m L f}(c:m=L.length):an (m+1) (λj=>bif Nat.blt j m then aN (λj=>L.getD j 0) j else m_ 1 (n_ (0+(j-m)*1) [M a_ f])) (aN λj=>(L++[f]).getD j 0):=by
 refine RW λj a=>?_
 by_cases h:j<m
 ·simp only[(Nat.blt_eq ..).mpr h,cond_true,aN]
  grind
 ·have a:j=m:=by omega
  have b:Nat.blt j m=false:=by
   cases b:Nat.blt j m with
   |false=>rfl
   |true=>simp_all
  simp only[b,cond_false];rw[a,Nat.sub_self,c];simp[aN]
def A6(nw)(C)(a fl)(nu de)(g top)(f)(k:Nat)(t:f=(k:Int)+1)(u:aJ a_ g=true)(d)(i)(l)(Q)(E:k<=6)(hQ:k<6->Q)(v:k=6->d=7/\i=(bL (aj g 64) 6).length/\l=gT (aj g 64) 6):
  kr [jC] [] 30 9002 14 (λp:Grp=>Nt 14 nw C a fl nu de g top p.f p.m p.G) (λ_=>G7 14 nw C a fl nu de g top d i l) (λ_=>⟨f+1,(bL (aj g 64) (k+1)).length,gT (aj g 64) (k+1)⟩) Q ⟨f,(bL (aj g 64) k).length,gT (aj g 64) k⟩:=by
 refine(IQ nw C a fl nu de g top f _ _ _ _ _ d i l Q).mpr ?_;have hl:=uD (aj g 64) k;have F:h_ (bL (aj g 64) k).length=((bL (aj g 64) k).length:Int):=rfl;have hi:aJ a_ (f+1)=true:=ai O O;have w:f_ (f-1)=k:=O;rw[w,if_pos (O:k<=64)];refine aaA (λx=>?_) λx=>?_
 ·have b:k<6:=by omega
  have q:=hQ b;have c:bL (aj g 64) (k+1)=match vM (aj g 64) k&&d_ ((bL (aj g 64) k).length<3)with|true=>bL (aj g 64) k++[(k:Int)+1]|false=>bL (aj g 64) k:=rfl
  have same:vM (aj g 64) k=false∨¬ (bL (aj g 64) k).length<3->bL (aj g 64) (k+1)=bL (aj g 64) k:=λh=>by
   grind
  have n:vM (aj g 64) k=false∨¬ (bL (aj g 64) k).length<3->B (aJ a_ (f+1)) (bh (bL (aj g 64) k).length (bL (aj g 64) (k+1)).length (an (bL (aj g 64) k).length (aN (gT (aj g 64) k)) (aN (gT (aj g 64) (k+1)))/\bh nw nw (an nw (av C) (av C)/\bh (bL (aj g 64) k).length (bL (aj g 64) (k+1)).length (aS a a (aS fl fl (eX nu nu (eX de de (eX [] [] (eX [] [] (aS top top (aS (f+1) (f+1) (aS g g Q)))))))))))):=λh=>by
   have e:bL (aj g 64) (k+1)=bL (aj g 64) k:=same h;have o:gT (aj g 64) (k+1)=gT (aj g 64) k:=by unfold gT;rw[e]
   rw[o,e];exact ZE _ _ hi (aan A ⟨dJ _ _,aan A ⟨cM _ _,aan A (aag A (aag A (aaY A (aaY A (aaY A (aaY A (aag A (aag A (aag A q)))))))))⟩⟩)
  refine ZE _ _ (by rw[u];rfl) (ZE _ _ (ai O O) (ZE _ _ Y (aaA (λr=>aaA (λh3=>?_) λh3=>?_) λr=>?_)))
  ·have s:(bL (aj g 64) k).length<3:=by omega
   have e:bL (aj g 64) (k+1)=bL (aj g 64) k++[f]:=by
    rw[c];have:(vM (aj g 64) k&&d_ ((bL (aj g 64) k).length<3))=true:=by unfold vM;rw[bK r,bK s];rfl
    rw[this,t]
   have o:(bL (aj g 64) (k+1)).length=(bL (aj g 64) k).length+1:=by rw[e];simp
   have y:gT (aj g 64) (k+1)=λj=>(bL (aj g 64) k++[f]).getD j 0:=by funext j;unfold gT;rw[e]
   rw[o,y];exact ZE _ _ Y (ZE _ _ hi (aan A ⟨RX A,aan A ⟨cM _ _,aan A (aag A (aag A (aaY A (aaY A (aaY A (aaY A (aag A (aag A (aag A q)))))))))⟩⟩))
  grind
  ·exact n (.inl (nJ r))
 ·have b:k=6:=by omega
  obtain⟨H,D,h3⟩:=v b;subst b;rw[D,h3];exact aan A ⟨dJ _ _,aan A ⟨cM _ _,aan A (aag A (aag A (aaY A (aaY A (aaY A (aaY A (aag A (aag O (aag A trivial)))))))))⟩⟩
def DD(nw)(C)(a fl)(nu de)(g top)(b:aJ a_ g=true):
  ay PP II false (az II 30 9002) 14 (Nt 14 nw C a fl nu de g top 1 0 (gT (aj g 64) 0)) (G7 14 nw C a fl nu de g top 7 (bL (aj g 64) 6).length (gT (aj g 64) 6)):=by
 have key:=ay.of (ι:=Nat) fU [jC] (aX PP II []) 1000 (c:=az II 30 9002) (ir:=false) 14 (λk=>k<=6) (λk=>Nt 14 nw C a fl nu de g top ((k:Int)+1) (bL (aj g 64) k).length (gT (aj g 64) k)) (λ_=>G7 14 nw C a fl nu de g top 7 (bL (aj g 64) 6).length (gT (aj g 64) 6)) (λk=>6-k) (λk=>k+1) 0 A O λk d=>by have:=A6 nw C a fl nu de g top ((k:Int)+1) k A b 7 _ _ (k+1<=6/\6-(k+1)<6-k/\(G7 14 nw C a fl nu de g top 7 (bL (aj g 64) 6).length (gT (aj g 64) 6)).pick=(G7 14 nw C a fl nu de g top 7 (bL (aj g 64) 6).length (gT (aj g 64) 6)).pick) d (λh=>Y) (λ_=>⟨rfl,rfl,rfl⟩);exact this
 exact key
def A7(nw)(C)(a fl)(nu de)(g top)(f)(k:Nat)(t:f=(k:Int)+1)(u:aJ a_ g=true)(d)(i)(l)(Q)(E:k<=6)(hQ:k<6->Q)(v:k=6->d=7/\i=(bL (aj g 64) 6).length/\l=gT (aj g 64) 6):
  kr [jC] [] 30 9002 15 (λp:Grp=>Nt 15 nw C a fl nu de g top p.f p.m p.G) (λ_=>G7 15 nw C a fl nu de g top d i l) (λ_=>⟨f+1,(bL (aj g 64) (k+1)).length,gT (aj g 64) (k+1)⟩) Q ⟨f,(bL (aj g 64) k).length,gT (aj g 64) k⟩:=by
 refine(FF nw C a fl nu de g top f _ _ _ _ _ d i l Q).mpr ?_;have hl:=uD (aj g 64) k;have F:h_ (bL (aj g 64) k).length=((bL (aj g 64) k).length:Int):=rfl;have hi:aJ a_ (f+1)=true:=ai O O;have w:f_ (f-1)=k:=O;rw[w,if_pos (O:k<=64)];refine aaA (λx=>?_) λx=>?_
 ·have b:k<6:=by omega
  have q:=hQ b;have c:bL (aj g 64) (k+1)=match vM (aj g 64) k&&d_ ((bL (aj g 64) k).length<3)with|true=>bL (aj g 64) k++[(k:Int)+1]|false=>bL (aj g 64) k:=rfl
  have same:vM (aj g 64) k=false∨¬ (bL (aj g 64) k).length<3->bL (aj g 64) (k+1)=bL (aj g 64) k:=λh=>by
   grind
  have n:vM (aj g 64) k=false∨¬ (bL (aj g 64) k).length<3->B (aJ a_ (f+1)) (bh (bL (aj g 64) k).length (bL (aj g 64) (k+1)).length (an (bL (aj g 64) k).length (aN (gT (aj g 64) k)) (aN (gT (aj g 64) (k+1)))/\bh nw nw (an nw (av C) (av C)/\bh (bL (aj g 64) k).length (bL (aj g 64) (k+1)).length (aS a a (aS fl fl (eX nu nu (eX de de (eX [] [] (eX [] [] (aS top top (aS (f+1) (f+1) (aS g g Q)))))))))))):=λh=>by
   have e:bL (aj g 64) (k+1)=bL (aj g 64) k:=same h;have o:gT (aj g 64) (k+1)=gT (aj g 64) k:=by unfold gT;rw[e]
   rw[o,e];exact ZE _ _ hi (aan A ⟨dJ _ _,aan A ⟨cM _ _,aan A (aag A (aag A (aaY A (aaY A (aaY A (aaY A (aag A (aag A (aag A q)))))))))⟩⟩)
  refine ZE _ _ (by rw[u];rfl) (ZE _ _ (ai O O) (ZE _ _ Y (aaA (λr=>aaA (λh3=>?_) λh3=>?_) λr=>?_)))
  ·have s:(bL (aj g 64) k).length<3:=by omega
   have e:bL (aj g 64) (k+1)=bL (aj g 64) k++[f]:=by
    rw[c];have:(vM (aj g 64) k&&d_ ((bL (aj g 64) k).length<3))=true:=by unfold vM;rw[bK r,bK s];rfl
    rw[this,t]
   have o:(bL (aj g 64) (k+1)).length=(bL (aj g 64) k).length+1:=by rw[e];simp
   have y:gT (aj g 64) (k+1)=λj=>(bL (aj g 64) k++[f]).getD j 0:=by funext j;unfold gT;rw[e]
   rw[o,y];exact ZE _ _ Y (ZE _ _ hi (aan A ⟨RX A,aan A ⟨cM _ _,aan A (aag A (aag A (aaY A (aaY A (aaY A (aaY A (aag A (aag A (aag A q)))))))))⟩⟩))
  grind
  ·exact n (.inl (nJ r))
 ·have b:k=6:=by omega
  obtain⟨H,D,h3⟩:=v b;subst b;rw[D,h3];exact aan A ⟨dJ _ _,aan A ⟨cM _ _,aan A (aag A (aag A (aaY A (aaY A (aaY A (aaY A (aag A (aag O (aag A trivial)))))))))⟩⟩
def DE(nw)(C)(a fl)(nu de)(g top)(b:aJ a_ g=true):
  ay PP II false (az II 30 9002) 15 (Nt 15 nw C a fl nu de g top 1 0 (gT (aj g 64) 0)) (G7 15 nw C a fl nu de g top 7 (bL (aj g 64) 6).length (gT (aj g 64) 6)):=by
 have key:=ay.of (ι:=Nat) fU [jC] (aX PP II []) 1000 (c:=az II 30 9002) (ir:=false) 15 (λk=>k<=6) (λk=>Nt 15 nw C a fl nu de g top ((k:Int)+1) (bL (aj g 64) k).length (gT (aj g 64) k)) (λ_=>G7 15 nw C a fl nu de g top 7 (bL (aj g 64) 6).length (gT (aj g 64) 6)) (λk=>6-k) (λk=>k+1) 0 A O λk d=>by have:=A7 nw C a fl nu de g top ((k:Int)+1) k A b 7 _ _ (k+1<=6/\6-(k+1)<6-k/\(G7 15 nw C a fl nu de g top 7 (bL (aj g 64) 6).length (gT (aj g 64) 6)).pick=(G7 15 nw C a fl nu de g top 7 (bL (aj g 64) 6).length (gT (aj g 64) 6)).pick) d (λh=>Y) (λ_=>⟨rfl,rfl,rfl⟩);exact this
 exact key
def bU(agg:Int)(n:Nat)(X:Nat->Nat->Int)(g top:Int):Query where
 nw:=min n 6
 C:=cN X
 ng:=(bL (aj g 64) 6).length
 G:=gT (aj g 64) 6
 a:=1+aj agg 5
 fl:=match d_ (1+aj agg 5>1)with|true=>7+aj (c_ agg 5) 2|false=>0
 nu:=match d_ (1+aj agg 5=5)with|true=>zj (f_ (aj (c_ agg 10) 11))|false=>[]
 de:=match d_ (1+aj agg 5=5)with|true=>zk (f_ (aj (c_ agg 10) 11))|false=>[]
 top:=match d_ (h_ (bL (aj g 64) 6).length>0)with|true=>aj top 5|false=>0
def aar(X):cN (aF (av X))=cN X:=by
 rfl
def kN(q)(σ):bj.le σ (aZ q) (aZ q):=⟨⟨rfl,rfl,λi hi=>ku _ _ _⟩,⟨rfl,rfl,λi hi=>pZ _ _ _⟩,⟨rfl,rfl⟩,⟨rfl,rfl⟩,rfl,rfl,⟨rfl,rfl⟩,trivial⟩
def RY(agg)(n)(X)(g top)(hx:ar 3 n (av X)=true)(ha:aJ a_ agg=true)(o:aJ a_ g=true)(ht:aJ a_ top=true):
  af PP II 30 [.int a_ agg,Zz n X,.int a_ g,.int a_ top] (AH.blank 12) (.ret (.agg (aZ (bU agg n X g top))) (AH.blank 12)):=by
 have q:=bF (c:=agg) (n:=5) O;have r:=bF (c:=c_ agg 5) (n:=2) O;have s:=bF (c:=c_ agg 10) (n:=11) O;have t1:=eO ha (k:=5) O;have t2:=eO ha (k:=10) O;have r1:an (min n 6) (av (cN (aF (av X)))) (av (cN X)):=by rw[aar];exact cM _ _
 have f:∀{a fl:Int}{nu de:List UInt8},a=1+aj agg 5->fl=(bU agg n X g top).fl->nu=(bU agg n X g top).nu->de=(bU agg n X g top).de->
   ak (d_ (h_ (bL (aj g 64) 6).length>0)) (B (aJ a_ top&&true) (B ((k_ (List.range.loop (bL (aj g 64) 6).length []) λi=>true)&&d_ ((bL (aj g 64) 6).length<=(bL (aj g 64) 6).length)) (j_ [i_ (min n 6) 3 (av (cN X)),i_ (bL (aj g 64) 6).length 1 (aN (gT (aj g 64) 6)),M a_ a,M a_ fl,g_ nu,g_ de,M a_ (aj top 5)]=j_ (aZ (bU agg n X g top)))))
    (B ((k_ (List.range.loop (bL (aj g 64) 6).length []) λi=>true)&&d_ ((bL (aj g 64) 6).length<=(bL (aj g 64) 6).length)) (j_ [i_ (min n 6) 3 (av (cN X)),i_ (bL (aj g 64) 6).length 1 (aN (gT (aj g 64) 6)),M a_ a,M a_ fl,g_ nu,g_ de,M a_ 0]=j_ (aZ (bU agg n X g top)))):=by
  intro a fl nu de l p h3 h4;subst l p h3 h4;refine aaA (λh=>ZE _ _ (by rw[ht];rfl) (ZE _ _ zA ?_)) λh=>ZE _ _ zA ?_
  ·have:(bU agg n X g top).top=aj top 5:=by
    show(match d_ (h_ (bL (aj g 64) 6).length>0)with|true=>aj top 5|false=>0)=_;rw[bK h]
   show _=j_ [_,_,_,_,_,_,M a_ (bU agg n X g top).top];rw[this];rfl
  ·have:(bU agg n X g top).top=0:=by
    show(match d_ (h_ (bL (aj g 64) 6).length>0)with|true=>aj top 5|false=>0)=_;rw[nJ h]
   show _=j_ [_,_,_,_,_,_,M a_ (bU agg n X g top).top];rw[this];rfl
 have b:1+aj agg 5>1->(bU agg n X g top).fl=7+aj (c_ agg 5) 2:=λh=>by show(match d_ (1+aj agg 5>1)with|true=>7+aj (c_ agg 5) 2|false=>0)=_;rw[bK h]
 have j :¬ 1+aj agg 5>1->(bU agg n X g top).fl=0:=λh=>by
  show(match d_ (1+aj agg 5>1)with|true=>7+aj (c_ agg 5) 2|false=>0)=_
  grind
 by_cases m:1+aj agg 5=5
 ·have d:(bU agg n X g top).nu=zj (f_ (aj (c_ agg 10) 11)):=by
   show(match d_ (1+aj agg 5=5)with|true=>zj (f_ (aj (c_ agg 10) 11))|false=>[])=_;rw[bK m]
  have e:(bU agg n X g top).de=zk (f_ (aj (c_ agg 10) 11)):=by show(match d_ (1+aj agg 5=5)with|true=>zk (f_ (aj (c_ agg 10) 11))|false=>[])=_;rw[bK m]
  refine bQ (ks:=[DB,jC,KU]) (T:=[(9002,15,Nt 15 (min n 6) (cN X) (1+aj agg 5) (bU agg n X g top).fl (bU agg n X g top).nu (bU agg n X g top).de g top 1 0 (gT (aj g 64) 0),G7 15 (min n 6) (cN X) (1+aj agg 5) (bU agg n X g top).fl (bU agg n X g top).nu (bU agg n X g top).de g top 7 (bL (aj g 64) 6).length (gT (aj g 64) 6))]) (λσ=>kN _ σ) ?_;have hl:=DE (min n 6) (cN X) (1+aj agg 5) (bU agg n X g top).fl (bU agg n X g top).nu (bU agg n X g top).de g top o;rw[Nu];have f1:=f A A A A;rw[d,e]at f1 hl⊢;rw[b O]at f1 hl⊢
  repeat' (first
   |refine ZE _ _ (by first|exact hx|(rw[hx];rfl)|(rw[ha];rfl)|exact t1|exact t2|(rw[t1];rfl)|(rw[t2];rfl)|exact ai O O|grind) ?_
   |exact⟨hl,aan A ⟨r1,aag A (aag A (aaY A (aaY A (aaY A (aaY A (aag A (aag A f1)))))))⟩⟩
   |refine aaA (λh=>?_) λh=>?_
   |(exfalso;omega))
 ·have d:(bU agg n X g top).nu=[]:=by
   show(match d_ (1+aj agg 5=5)with|true=>zj (f_ (aj (c_ agg 10) 11))|false=>[])=_;rw[nJ m]
  have e:(bU agg n X g top).de=[]:=by show(match d_ (1+aj agg 5=5)with|true=>zk (f_ (aj (c_ agg 10) 11))|false=>[])=_;rw[nJ m]
  refine bQ (ks:=[DB,jC,KU]) (T:=[(9002,14,Nt 14 (min n 6) (cN X) (1+aj agg 5) (bU agg n X g top).fl [] [] g top 1 0 (gT (aj g 64) 0),G7 14 (min n 6) (cN X) (1+aj agg 5) (bU agg n X g top).fl [] [] g top 7 (bL (aj g 64) 6).length (gT (aj g 64) 6))]) (λσ=>kN _ σ) ?_;have hl:=DD (min n 6) (cN X) (1+aj agg 5) (bU agg n X g top).fl [] [] g top o;rw[RV];have f1:=f A A A A;rw[d,e]at f1;by_cases l:1+aj agg 5>1
  ·rw[b l]at f1 hl⊢;exact zV
  ·rw[j l]at f1 hl⊢;exact zV
end
end Go.Sx
