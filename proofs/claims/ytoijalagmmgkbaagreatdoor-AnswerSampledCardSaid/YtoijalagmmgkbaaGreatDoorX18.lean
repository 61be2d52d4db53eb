/- Lemmas, part 18. -/
import Derived.Test.YtoijalagmmgkbaaGreatDoorX16
import Derived.Test.YtoijalagmmgkbaaGreatDoorX17
set_option linter.all false
set_option linter.defProp false
set_option maxRecDepth 1000000
namespace Go.Sx
open Go
open AV renaming int->M,ptr->e_,str->f_,ab->i_,agg->j_,own->m_,aw->p_
open Option renaming none->z,some->b_
open Go.IntKind renaming i64->a_
open Int renaming tdiv->c_,toNat->g_,ofNat->h_,tmod->r_,fdiv->s_,pow->t_
open Decidable renaming decide->d_
open List renaming all->k_,take->n_,drop->o_
noncomputable section
structure Query where
 (nw:Nat) (C:Nat->Nat->Int) (ng:Nat) (G:Nat->Int) (a fl:Int) (nu de:List UInt8) (top:Int)
def aR(G:Nat->Int)(j:Nat):List AV:=[.int a_ (G j)]
def aY(q:Query):List AV:=[.ab q.nw 3 (au q.C),.ab q.ng 1 (aR q.G),.int a_ q.a,.int a_ q.fl,.str q.nu,.str q.de,.int a_ q.top]
def WK:List AV:=[.aw,.aw,.int a_ 0,.int a_ 0,.str [],.str [],.int a_ 0]
def I1(n0:Nat)(nw:Nat)(C:Nat->Nat->Int)(a fl:Int)(nu de:List UInt8)(g top:Int)(f:Int)(m:Nat)(G:Nat->Int):St :=
 {t:=Tr.ofList [(2,.int a_ g),(3,.int a_ top),(8,.ptr 12 0 0 0),(9,.ptr 13 0 0 0),(12,.int a_ f)],nt:=72,H:={n:=n0+1,t:=Tr.ofList [(12,.cells WK (.ty 32)),(13,.cells [.ab nw 3 (au C),.own n0 m 1,.int a_ a,.int a_ fl,.str nu,.str de,.int a_ 0] (.ty 32)),(n0,.rows m 1 (aR G) (.ty 3))]},df:=[]}
def DF(n0:Nat)(nw:Nat)(C:Nat->Nat->Int)(a fl:Int)(nu de:List UInt8)(g top:Int)(f:Int)(m:Nat)(G:Nat->Int):GE:=.one (.x 0 (I1 n0 nw C a fl nu de g top f m G))
structure Xq where
 (f:Int) (m:Nat) (G:Nat->Int)
def ER(e:Bool)(nw)(C)(a fl)(nu de)(g top)(f)(m)(G)(d)(b)(h)(k)(j)(l)(Q):(kr [gF] [] 36 9002 (bif e then 14 else 15) (λp:Xq=>I1 (bif e then 14 else 15) nw C a fl nu de g top p.f p.m p.G) (λ_=>DF (bif e then 14 else 15) nw C a fl nu de g top k j l) (λ_=>⟨d,b,h⟩) Q ⟨f,m,G⟩)=(let c:=(aa (aN a_ (f+1)) (ax m b (an m (aR G) (aR h)/\zyN nw (zyR nw (au C) (ax m b (zyI a (zyI fl (zyB nu (zyB de (zyB [] (zyB [] (zyI top (aH (f+1) d (zyI g Q))))))))))))));(ah (d_ (f<=6)) (aa (aN a_ g&&true) (aa (aN a_ (f-1)) (aa (d_ (0<=f-1)) (ah (d_ (r_ (s_ (av g 64) (t_ 2 (if g_ (f-1)<=64 then g_ (f-1)else 64))) 2=1)) (ah (d_ (h_ m<3)) (aa (d_ (m<=m)&&true&&true&&d_ ((m+1)*8<=140737488355328)&&true) (aa (aN a_ (f+1)) (ax (m+1) b (an (m+1) (λi=>bif Nat.blt i m then aR G i else n_ 1 (o_ (0+(i-m)*1) [M a_ f])) (aR h)/\zyN nw (zyR nw (au C) (ax (m+1) b (zyI a (zyI fl (zyB nu (zyB de (zyB [] (zyB [] (zyI top (aH (f+1) d (zyI g Q))))))))))))))) c) c)))) (ax m j (an m (aR G) (aR l)/\zyN nw (zyR nw (au C) (ax m j (zyI a (zyI fl (zyB nu (zyB de (zyB [] (zyB [] (zyI top (aH f k (zyI g True))))))))))))))):=by cases e<;>kernel_rfl
def MN(n)(X C)(nw)(agg g top a fl)(c)(o m)(Q):(kb [AD,gF,GS] [(9002,14,I1 14 nw C a fl [] [] g top 1 0 o,DF 14 nw C a fl [] [] g top 7 c m)] 36 [.int a_ agg,Vl n X,.int a_ g,.int a_ top] Q)=(let b:=(eT.cells [p_,p_,M a_ 0,M a_ 0,f_ [],f_ [],M a_ 0] (Access.ty 32));let k:=(zyB [] (zyB [] (zyB [] (zyB [] (zyI top (zyI g (ah (d_ (h_ c>0)) (aa (aN a_ top&&true) (aa ((k_ (List.range.loop c []) λi=>true)&&d_ (c<=c)) (Q (j_ [i_ nw 3 (au C),i_ c 1 (aR m),M a_ a,M a_ fl,f_ [],f_ [],M a_ (av top 5)])))) (aa ((k_ (List.range.loop c []) λi=>true)&&d_ (c<=c)) (Q (j_ [i_ nw 3 (au C),i_ c 1 (aR m),M a_ a,M a_ fl,f_ [],f_ [],M a_ 0]))))))))));let d:=(eT.cells [i_ nw 3 (au C),m_ 14 c 1,M a_ a,M a_ fl,f_ [],f_ [],M a_ 0] (Access.ty 32));let f:=(eT.cells [i_ nw 3 (au C),m_ 14 0 1,M a_ a,M a_ fl,f_ [],f_ [],M a_ 0] (Access.ty 32));let h:=(eT.rows c 1 (aR m) (Access.ty 3));let j:=(eT.rows 0 1 (aR o) (Access.ty 3));let l:=(d_ (0<=av (c_ agg 10) 11)&&d_ (av (c_ agg 10) 11<=10)&&true);(aa (aI 3 n (au X)) (aa (aN a_ agg&&true) (aa (aN a_ (1+av agg 5)) (ah (d_ (1+av agg 5>1)) (aa (aN a_ (c_ agg 5)) (aa (aN a_ (c_ agg 5)&&true) (aa (aN a_ (7+av (c_ agg 5) 2)) (ah (d_ (1+av agg 5=5)) (aa (aN a_ (c_ agg 10)) (aa (aN a_ (c_ agg 10)&&true) (aa l (eu PP II false (aD II 36 9002) 14 {t:=.n (.n (.n .e (b_ (M a_ top)) .e) z (.n (.n .e (b_ (e_ 13 0 0 0)) .e) z .e)) z (.n (.n (.n .e (b_ (e_ 12 0 0 0)) .e) z (.n .e (b_ (M a_ 1)) .e)) (b_ (M a_ g)) .e),nt:=72,H:={n:=15,t:=.n (.n .e z (.n .e z (.n .e (b_ f) .e))) z (.n (.n .e z (.n .e (b_ b) .e)) z (.n .e z (.n .e (b_ j) .e)))},df:=[]} (GE.one (aQ.x 0 {t:=.n (.n (.n .e (b_ (M a_ top)) .e) z (.n (.n .e (b_ (e_ 13 0 0 0)) .e) z .e)) z (.n (.n (.n .e (b_ (e_ 12 0 0 0)) .e) z (.n .e (b_ (M a_ 7)) .e)) (b_ (M a_ g)) .e),nt:=72,H:={n:=15,t:=.n (.n .e z (.n .e z (.n .e (b_ d) .e))) z (.n (.n .e z (.n .e (b_ b) .e)) z (.n .e z (.n .e (b_ h) .e)))},df:=[]}))/\False)))) (eu PP II false (aD II 36 9002) 14 {t:=.n (.n (.n .e (b_ (M a_ top)) .e) z (.n (.n .e (b_ (e_ 13 0 0 0)) .e) z .e)) z (.n (.n (.n .e (b_ (e_ 12 0 0 0)) .e) z (.n .e (b_ (M a_ 1)) .e)) (b_ (M a_ g)) .e),nt:=72,H:={n:=15,t:=.n (.n .e z (.n .e z (.n .e (b_ f) .e))) z (.n (.n .e z (.n .e (b_ b) .e)) z (.n .e z (.n .e (b_ j) .e)))},df:=[]} (GE.one (aQ.x 0 {t:=.n (.n (.n .e (b_ (M a_ top)) .e) z (.n (.n .e (b_ (e_ 13 0 0 0)) .e) z .e)) z (.n (.n (.n .e (b_ (e_ 12 0 0 0)) .e) z (.n .e (b_ (M a_ 7)) .e)) (b_ (M a_ g)) .e),nt:=72,H:={n:=15,t:=.n (.n .e z (.n .e z (.n .e (b_ d) .e))) z (.n (.n .e z (.n .e (b_ b) .e)) z (.n .e z (.n .e (b_ h) .e)))},df:=[]}))/\ax (min n 6) nw (an (min n 6) (au (cW (bG (au X)))) (au C)/\aH (1+av agg 5) a (aH (7+av (c_ agg 5) 2) fl k))))))) (ah (d_ (1+av agg 5=5)) (aa (aN a_ (c_ agg 10)) (aa (aN a_ (c_ agg 10)&&true) (aa l (eu PP II false (aD II 36 9002) 14 {t:=.n (.n (.n .e (b_ (M a_ top)) .e) z (.n (.n .e (b_ (e_ 13 0 0 0)) .e) z .e)) z (.n (.n (.n .e (b_ (e_ 12 0 0 0)) .e) z (.n .e (b_ (M a_ 1)) .e)) (b_ (M a_ g)) .e),nt:=72,H:={n:=15,t:=.n (.n .e z (.n .e z (.n .e (b_ f) .e))) z (.n (.n .e z (.n .e (b_ b) .e)) z (.n .e z (.n .e (b_ j) .e)))},df:=[]} (GE.one (aQ.x 0 {t:=.n (.n (.n .e (b_ (M a_ top)) .e) z (.n (.n .e (b_ (e_ 13 0 0 0)) .e) z .e)) z (.n (.n (.n .e (b_ (e_ 12 0 0 0)) .e) z (.n .e (b_ (M a_ 7)) .e)) (b_ (M a_ g)) .e),nt:=72,H:={n:=15,t:=.n (.n .e z (.n .e z (.n .e (b_ d) .e))) z (.n (.n .e z (.n .e (b_ b) .e)) z (.n .e z (.n .e (b_ h) .e)))},df:=[]}))/\False)))) (eu PP II false (aD II 36 9002) 14 {t:=.n (.n (.n .e (b_ (M a_ top)) .e) z (.n (.n .e (b_ (e_ 13 0 0 0)) .e) z .e)) z (.n (.n (.n .e (b_ (e_ 12 0 0 0)) .e) z (.n .e (b_ (M a_ 1)) .e)) (b_ (M a_ g)) .e),nt:=72,H:={n:=15,t:=.n (.n .e z (.n .e z (.n .e (b_ f) .e))) z (.n (.n .e z (.n .e (b_ b) .e)) z (.n .e z (.n .e (b_ j) .e)))},df:=[]} (GE.one (aQ.x 0 {t:=.n (.n (.n .e (b_ (M a_ top)) .e) z (.n (.n .e (b_ (e_ 13 0 0 0)) .e) z .e)) z (.n (.n (.n .e (b_ (e_ 12 0 0 0)) .e) z (.n .e (b_ (M a_ 7)) .e)) (b_ (M a_ g)) .e),nt:=72,H:={n:=15,t:=.n (.n .e z (.n .e z (.n .e (b_ d) .e))) z (.n (.n .e z (.n .e (b_ b) .e)) z (.n .e z (.n .e (b_ h) .e)))},df:=[]}))/\ax (min n 6) nw (an (min n 6) (au (cW (bG (au X)))) (au C)/\aH (1+av agg 5) a (aH 0 fl k))))))))):=U
def I2(n)(X C)(nw)(agg g top a fl)(nu de)(c)(q p)(Q):(kb [AD,gF,GS] [(9002,15,I1 15 nw C a fl nu de g top 1 0 q,DF 15 nw C a fl nu de g top 7 c p)] 36 [.int a_ agg,Vl n X,.int a_ g,.int a_ top] Q)=(let l:=(zyB [] (zyB [] (zyI top (zyI g (ah (d_ (h_ c>0)) (aa (aN a_ top&&true) (aa ((k_ (List.range.loop c []) λi=>true)&&d_ (c<=c)) (Q (j_ [i_ nw 3 (au C),i_ c 1 (aR p),M a_ a,M a_ fl,f_ nu,f_ de,M a_ (av top 5)])))) (aa ((k_ (List.range.loop c []) λi=>true)&&d_ (c<=c)) (Q (j_ [i_ nw 3 (au C),i_ c 1 (aR p),M a_ a,M a_ fl,f_ nu,f_ de,M a_ 0]))))))));let b:=(eT.cells [p_,p_,M a_ 0,M a_ 0,f_ [],f_ [],M a_ 0] (Access.ty 32));let d:=(eT.cells [i_ nw 3 (au C),m_ 15 c 1,M a_ a,M a_ fl,f_ nu,f_ de,M a_ 0] (Access.ty 32));let f:=(eT.cells [i_ nw 3 (au C),m_ 15 0 1,M a_ a,M a_ fl,f_ nu,f_ de,M a_ 0] (Access.ty 32));let m:=(bI (wy (g_ (av (c_ agg 10) 11))) nu (bI (wz (g_ (av (c_ agg 10) 11))) de l));let h:=(eT.rows c 1 (aR p) (Access.ty 3));let j:=(eT.rows 0 1 (aR q) (Access.ty 3));let o:=(d_ (0<=av (c_ agg 10) 11)&&d_ (av (c_ agg 10) 11<=10)&&true);let k:=(au (cW (bG (au X))));(aa (aI 3 n (au X)) (aa (aN a_ agg&&true) (aa (aN a_ (1+av agg 5)) (ah (d_ (1+av agg 5>1)) (aa (aN a_ (c_ agg 5)) (aa (aN a_ (c_ agg 5)&&true) (aa (aN a_ (7+av (c_ agg 5) 2)) (ah (d_ (1+av agg 5=5)) (aa (aN a_ (c_ agg 10)) (aa (aN a_ (c_ agg 10)&&true) (aa o (eu PP II false (aD II 36 9002) 15 {t:=.n (.n (.n .e (b_ (M a_ top)) .e) z (.n (.n .e (b_ (e_ 13 0 0 0)) .e) z .e)) z (.n (.n (.n .e (b_ (e_ 12 0 0 0)) .e) z (.n .e (b_ (M a_ 1)) .e)) (b_ (M a_ g)) .e),nt:=72,H:={n:=16,t:=.n (.n (.n (.n (.n .e (b_ j) .e) z .e) z .e) z (.n .e z (.n .e (b_ f) .e))) z (.n (.n .e z (.n .e (b_ b) .e)) z .e)},df:=[]} (GE.one (aQ.x 0 {t:=.n (.n (.n .e (b_ (M a_ top)) .e) z (.n (.n .e (b_ (e_ 13 0 0 0)) .e) z .e)) z (.n (.n (.n .e (b_ (e_ 12 0 0 0)) .e) z (.n .e (b_ (M a_ 7)) .e)) (b_ (M a_ g)) .e),nt:=72,H:={n:=16,t:=.n (.n (.n (.n (.n .e (b_ h) .e) z .e) z .e) z (.n .e z (.n .e (b_ d) .e))) z (.n (.n .e z (.n .e (b_ b) .e)) z .e)},df:=[]}))/\ax (min n 6) nw (an (min n 6) k (au C)/\aH (1+av agg 5) a (aH (7+av (c_ agg 5) 2) fl m)))))) (eu PP II false (aD II 36 9002) 15 {t:=.n (.n (.n .e (b_ (M a_ top)) .e) z (.n (.n .e (b_ (e_ 13 0 0 0)) .e) z .e)) z (.n (.n (.n .e (b_ (e_ 12 0 0 0)) .e) z (.n .e (b_ (M a_ 1)) .e)) (b_ (M a_ g)) .e),nt:=72,H:={n:=16,t:=.n (.n (.n (.n (.n .e (b_ j) .e) z .e) z .e) z (.n .e z (.n .e (b_ f) .e))) z (.n (.n .e z (.n .e (b_ b) .e)) z .e)},df:=[]} (GE.one (aQ.x 0 {t:=.n (.n (.n .e (b_ (M a_ top)) .e) z (.n (.n .e (b_ (e_ 13 0 0 0)) .e) z .e)) z (.n (.n (.n .e (b_ (e_ 12 0 0 0)) .e) z (.n .e (b_ (M a_ 7)) .e)) (b_ (M a_ g)) .e),nt:=72,H:={n:=16,t:=.n (.n (.n (.n (.n .e (b_ h) .e) z .e) z .e) z (.n .e z (.n .e (b_ d) .e))) z (.n (.n .e z (.n .e (b_ b) .e)) z .e)},df:=[]}))/\ax (min n 6) nw (an (min n 6) k (au C)/\aH (1+av agg 5) a (aH (7+av (c_ agg 5) 2) fl (bI [] nu (bI [] de l))))))))) (ah (d_ (1+av agg 5=5)) (aa (aN a_ (c_ agg 10)) (aa (aN a_ (c_ agg 10)&&true) (aa o (eu PP II false (aD II 36 9002) 15 {t:=.n (.n (.n .e (b_ (M a_ top)) .e) z (.n (.n .e (b_ (e_ 13 0 0 0)) .e) z .e)) z (.n (.n (.n .e (b_ (e_ 12 0 0 0)) .e) z (.n .e (b_ (M a_ 1)) .e)) (b_ (M a_ g)) .e),nt:=72,H:={n:=16,t:=.n (.n (.n (.n (.n .e (b_ j) .e) z .e) z .e) z (.n .e z (.n .e (b_ f) .e))) z (.n (.n .e z (.n .e (b_ b) .e)) z .e)},df:=[]} (GE.one (aQ.x 0 {t:=.n (.n (.n .e (b_ (M a_ top)) .e) z (.n (.n .e (b_ (e_ 13 0 0 0)) .e) z .e)) z (.n (.n (.n .e (b_ (e_ 12 0 0 0)) .e) z (.n .e (b_ (M a_ 7)) .e)) (b_ (M a_ g)) .e),nt:=72,H:={n:=16,t:=.n (.n (.n (.n (.n .e (b_ h) .e) z .e) z .e) z (.n .e z (.n .e (b_ d) .e))) z (.n (.n .e z (.n .e (b_ b) .e)) z .e)},df:=[]}))/\ax (min n 6) nw (an (min n 6) k (au C)/\aH (1+av agg 5) a (aH 0 fl m)))))) (eu PP II false (aD II 36 9002) 15 {t:=.n (.n (.n .e (b_ (M a_ top)) .e) z (.n (.n .e (b_ (e_ 13 0 0 0)) .e) z .e)) z (.n (.n (.n .e (b_ (e_ 12 0 0 0)) .e) z (.n .e (b_ (M a_ 1)) .e)) (b_ (M a_ g)) .e),nt:=72,H:={n:=16,t:=.n (.n (.n (.n (.n .e (b_ j) .e) z .e) z .e) z (.n .e z (.n .e (b_ f) .e))) z (.n (.n .e z (.n .e (b_ b) .e)) z .e)},df:=[]} (GE.one (aQ.x 0 {t:=.n (.n (.n .e (b_ (M a_ top)) .e) z (.n (.n .e (b_ (e_ 13 0 0 0)) .e) z .e)) z (.n (.n (.n .e (b_ (e_ 12 0 0 0)) .e) z (.n .e (b_ (M a_ 7)) .e)) (b_ (M a_ g)) .e),nt:=72,H:={n:=16,t:=.n (.n (.n (.n (.n .e (b_ h) .e) z .e) z .e) z (.n .e z (.n .e (b_ d) .e))) z (.n (.n .e z (.n .e (b_ b) .e)) z .e)},df:=[]}))/\ax (min n 6) nw (an (min n 6) k (au C)/\aH (1+av agg 5) a (aH 0 fl (bI [] nu (bI [] de l))))))))))):=U
def pF(G)(σ)(j):bt.le σ (aR G j) (aR G j):=⟨⟨rfl,rfl⟩,trivial⟩
def bO(n)(G):an n (aR G) (aR G):=Zj λσ j=>pF G σ j
def MO{m g G}(h:∀j,j<m->g j=aR G j):an m g (aR G):=λj a σ=>by rw[h j a];exact pF G σ j
def sZ(p:Int)(k:Nat):Bool:=d_ (r_ (s_ p (t_ 2 k)) 2=1)
def bM(p:Int):Nat->List Int
 |0=>[]
 |k+1=>match sZ p k&&d_ ((bM p k).length<3)with|true=>bM p k++[(k:Int)+1]|false=>bM p k
def Hq(p:Int)(k:Nat)(j:Nat):Int:=(bM p k).getD j 0
def rH(p):∀k,(bM p k).length<=3
 |0=>by simp[bM]
 |k+1=>by
  have:=rH p k
  unfold bM
  grind
def MP{m L f}(c:m=L.length):an (m+1) (λj=>bif Nat.blt j m then aR (λj=>L.getD j 0) j else n_ 1 (o_ (0+(j-m)*1) [M a_ f])) (aR λj=>(L++[f]).getD j 0):=by
 refine MO λj a=>?_
 by_cases h:j<m
 ·simp only[(Nat.blt_eq ..).mpr h,cond_true,aR]
  grind
 ·have a:j=m:=by omega
  have b:Nat.blt j m=false:=by
   cases b:Nat.blt j m with
   |false=>rfl
   |true=>simp_all
  simp only[b,cond_false]
  rw[a,Nat.sub_self,c]
  simp[aR]
def xQ(e:Bool)(nw)(C)(a fl)(nu de)(g top)(f)(k:Nat)(t:f=(k:Int)+1)(u:aN a_ g=true)(d)(i)(l)(Q)(B:k<=6)(hQ:k<6->Q)(v:k=6->d=7/\i=(bM (av g 64) 6).length/\l=Hq (av g 64) 6):
  kr [gF] [] 36 9002 (bif e then 14 else 15) (λp:Xq=>I1 (bif e then 14 else 15) nw C a fl nu de g top p.f p.m p.G) (λ_=>DF (bif e then 14 else 15) nw C a fl nu de g top d i l) (λ_=>⟨f+1,(bM (av g 64) (k+1)).length,Hq (av g 64) (k+1)⟩) Q ⟨f,(bM (av g 64) k).length,Hq (av g 64) k⟩:=by
 refine(ER e nw C a fl nu de g top f _ _ _ _ _ d i l Q).mpr ?_
 have hl:=rH (av g 64) k
 have D:h_ (bM (av g 64) k).length=((bM (av g 64) k).length:Int):=rfl
 have hi:aN a_ (f+1)=true:=aq O O
 have e1:g_ (f-1)=k:=O
 rw[e1,if_pos (O:k<=64)]
 refine Zg (λw=>?_) λw=>?_
 ·have b:k<6:=by omega
  have q:=hQ b
  have c:bM (av g 64) (k+1)=match sZ (av g 64) k&&d_ ((bM (av g 64) k).length<3)with|true=>bM (av g 64) k++[(k:Int)+1]|false=>bM (av g 64) k:=rfl
  have same:sZ (av g 64) k=false∨¬ (bM (av g 64) k).length<3->bM (av g 64) (k+1)=bM (av g 64) k:=λh=>by
   grind
  have fin:sZ (av g 64) k=false∨¬ (bM (av g 64) k).length<3->aa (aN a_ (f+1)) (ax (bM (av g 64) k).length (bM (av g 64) (k+1)).length (an (bM (av g 64) k).length (aR (Hq (av g 64) k)) (aR (Hq (av g 64) (k+1)))/\ax nw nw (an nw (au C) (au C)/\ax (bM (av g 64) k).length (bM (av g 64) (k+1)).length (aH a a (aH fl fl (bI nu nu (bI de de (bI [] [] (bI [] [] (aH top top (aH (f+1) (f+1) (aH g g Q)))))))))))):=λh=>by
   have e:bM (av g 64) (k+1)=bM (av g 64) k:=same h
   have n:Hq (av g 64) (k+1)=Hq (av g 64) k:=by unfold Hq;rw[e]
   rw[n,e]
   exact cC _ _ hi (YG A ⟨bO _ _,YG A ⟨bC _ _,YG A (Zf A (Zf A (Zi A (Zi A (Zi A (Zi A (Zf A (Zf A (Zf A q)))))))))⟩⟩)
  refine cC _ _ (by rw[u];rfl) (cC _ _ (aq O O) (cC _ _ Y (Zg (λo=>Zg (λr=>?_) λr=>?_) λo=>?_)))
  ·have s:(bM (av g 64) k).length<3:=by omega
   have e:bM (av g 64) (k+1)=bM (av g 64) k++[f]:=by
    rw[c]
    have:(sZ (av g 64) k&&d_ ((bM (av g 64) k).length<3))=true:=by
     unfold sZ
     rw[bW o,bW s];rfl
    rw[this,t]
   have n:(bM (av g 64) (k+1)).length=(bM (av g 64) k).length+1:=by rw[e];simp
   have x:Hq (av g 64) (k+1)=λj=>(bM (av g 64) k++[f]).getD j 0:=by funext j;unfold Hq;rw[e]
   rw[n,x]
   exact cC _ _ Y (cC _ _ hi (YG A ⟨MP A,YG A ⟨bC _ _,YG A (Zf A (Zf A (Zi A (Zi A (Zi A (Zi A (Zf A (Zf A (Zf A q)))))))))⟩⟩))
  grind
  ·exact fin (.inl (nZ o))
 ·have b:k=6:=by omega
  obtain⟨E,y,r⟩:=v b
  subst b
  rw[y,r]
  exact YG A ⟨bO _ _,YG A ⟨bC _ _,YG A (Zf A (Zf A (Zi A (Zi A (Zi A (Zi A (Zf A (Zf O (Zf A trivial)))))))))⟩⟩
def rO(e:Bool)(nw)(C)(a fl)(nu de)(g top)(b:aN a_ g=true):
  eu PP II false (aD II 36 9002) (bif e then 14 else 15) (I1 (bif e then 14 else 15) nw C a fl nu de g top 1 0 (Hq (av g 64) 0)) (DF (bif e then 14 else 15) nw C a fl nu de g top 7 (bM (av g 64) 6).length (Hq (av g 64) 6)):=by
 have key:=eu.of (ι:=Nat) Hs [gF] (bm PP II []) 1000 (c:=aD II 36 9002) (ir:=false) (bif e then 14 else 15) (λk=>k<=6) (λk=>I1 (bif e then 14 else 15) nw C a fl nu de g top ((k:Int)+1) (bM (av g 64) k).length (Hq (av g 64) k)) (λ_=>DF (bif e then 14 else 15) nw C a fl nu de g top 7 (bM (av g 64) 6).length (Hq (av g 64) 6)) (λk=>6-k) (λk=>k+1) 0 (by cases e<;>rfl) O λk d=>by
  have:=xQ e nw C a fl nu de g top ((k:Int)+1) k A b 7 _ _ (k+1<=6/\6-(k+1)<6-k/\(DF (bif e then 14 else 15) nw C a fl nu de g top 7 (bM (av g 64) 6).length (Hq (av g 64) 6)).pick=(DF (bif e then 14 else 15) nw C a fl nu de g top 7 (bM (av g 64) 6).length (Hq (av g 64) 6)).pick) d (λh=>Y) (λ_=>⟨rfl,rfl,rfl⟩)
  exact this
 exact key
def cJ(agg:Int)(n:Nat)(X:Nat->Nat->Int)(g top:Int):Query where
 nw:=min n 6
 C:=cW X
 ng:=(bM (av g 64) 6).length
 G:=Hq (av g 64) 6
 a:=1+av agg 5
 fl:=match d_ (1+av agg 5>1)with|true=>7+av (c_ agg 5) 2|false=>0
 nu:=match d_ (1+av agg 5=5)with|true=>wy (g_ (av (c_ agg 10) 11))|false=>[]
 de:=match d_ (1+av agg 5=5)with|true=>wz (g_ (av (c_ agg 10) 11))|false=>[]
 top:=match d_ (h_ (bM (av g 64) 6).length>0)with|true=>av top 5|false=>0
def SK(X):cW (bG (au X))=cW X:=by
 rfl
def iY(q)(σ):bt.le σ (aY q) (aY q):=⟨⟨rfl,rfl,λi hi=>jq _ _ _⟩,⟨rfl,rfl,λi hi=>pF _ _ _⟩,⟨rfl,rfl⟩,⟨rfl,rfl⟩,rfl,rfl,⟨rfl,rfl⟩,trivial⟩
def MQ(agg)(n)(X)(g top)(hx:aI 3 n (au X)=true)(ha:aN a_ agg=true)(m:aN a_ g=true)(ht:aN a_ top=true):
  af PP II 36 [.int a_ agg,Vl n X,.int a_ g,.int a_ top] (AH.blank 12) (.ret (.agg (aY (cJ agg n X g top))) (AH.blank 12)):=by
 have r:=cj (c:=agg) (n:=5) O
 have s:=cj (c:=c_ agg 5) (n:=2) O
 have t:=cj (c:=c_ agg 10) (n:=11) O
 have t1:=mM ha (k:=5) O
 have t2:=mM ha (k:=10) O
 have r1:an (min n 6) (au (cW (bG (au X)))) (au (cW X)):=by rw[SK];exact bC _ _
 have fin:∀{a fl:Int}{nu de:List UInt8},a=1+av agg 5->fl=(cJ agg n X g top).fl->nu=(cJ agg n X g top).nu->de=(cJ agg n X g top).de->
   ah (d_ (h_ (bM (av g 64) 6).length>0)) (aa (aN a_ top&&true) (aa ((k_ (List.range.loop (bM (av g 64) 6).length []) λi=>true)&&d_ ((bM (av g 64) 6).length<=(bM (av g 64) 6).length)) (j_ [i_ (min n 6) 3 (au (cW X)),i_ (bM (av g 64) 6).length 1 (aR (Hq (av g 64) 6)),M a_ a,M a_ fl,f_ nu,f_ de,M a_ (av top 5)]=j_ (aY (cJ agg n X g top)))))
    (aa ((k_ (List.range.loop (bM (av g 64) 6).length []) λi=>true)&&d_ ((bM (av g 64) 6).length<=(bM (av g 64) 6).length)) (j_ [i_ (min n 6) 3 (au (cW X)),i_ (bM (av g 64) 6).length 1 (aR (Hq (av g 64) 6)),M a_ a,M a_ fl,f_ nu,f_ de,M a_ 0]=j_ (aY (cJ agg n X g top)))):=by
  intro a fl nu de j o p q
  subst j o p q
  refine Zg (λh=>cC _ _ (by rw[ht];rfl) (cC _ _ zA ?_)) λh=>cC _ _ zA ?_
  ·have:(cJ agg n X g top).top=av top 5:=by
    show(match d_ (h_ (bM (av g 64) 6).length>0)with|true=>av top 5|false=>0)=_
    rw[bW h]
   show _=j_ [_,_,_,_,_,_,M a_ (cJ agg n X g top).top]
   rw[this];rfl
  ·have:(cJ agg n X g top).top=0:=by
    show(match d_ (h_ (bM (av g 64) 6).length>0)with|true=>av top 5|false=>0)=_
    rw[nZ h]
   show _=j_ [_,_,_,_,_,_,M a_ (cJ agg n X g top).top]
   rw[this];rfl
 have b:1+av agg 5>1->(cJ agg n X g top).fl=7+av (c_ agg 5) 2:=λh=>by
  show(match d_ (1+av agg 5>1)with|true=>7+av (c_ agg 5) 2|false=>0)=_
  rw[bW h]
 have f :¬ 1+av agg 5>1->(cJ agg n X g top).fl=0:=λh=>by
  show(match d_ (1+av agg 5>1)with|true=>7+av (c_ agg 5) 2|false=>0)=_
  grind
 by_cases l:1+av agg 5=5
 ·have d:(cJ agg n X g top).nu=wy (g_ (av (c_ agg 10) 11)):=by
   show(match d_ (1+av agg 5=5)with|true=>wy (g_ (av (c_ agg 10) 11))|false=>[])=_
   rw[bW l]
  have e:(cJ agg n X g top).de=wz (g_ (av (c_ agg 10) 11)):=by
   show(match d_ (1+av agg 5=5)with|true=>wz (g_ (av (c_ agg 10) 11))|false=>[])=_
   rw[bW l]
  refine bY (ks:=[AD,gF,GS]) (T:=[(9002,15,I1 15 (min n 6) (cW X) (1+av agg 5) (cJ agg n X g top).fl (cJ agg n X g top).nu (cJ agg n X g top).de g top 1 0 (Hq (av g 64) 0),DF 15 (min n 6) (cW X) (1+av agg 5) (cJ agg n X g top).fl (cJ agg n X g top).nu (cJ agg n X g top).de g top 7 (bM (av g 64) 6).length (Hq (av g 64) 6))]) (λσ=>iY _ σ) ?_
  have hl:=rO false (min n 6) (cW X) (1+av agg 5) (cJ agg n X g top).fl (cJ agg n X g top).nu (cJ agg n X g top).de g top m
  rw[I2]
  have f1:=fin A A A A
  rw[d,e]at f1 hl⊢
  rw[b O]at f1 hl⊢
  repeat' (first
   |refine cC _ _ (by first|exact hx|(rw[hx];rfl)|(rw[ha];rfl)|exact t1|exact t2|(rw[t1];rfl)|(rw[t2];rfl)|exact aq O O|grind) ?_
   |exact⟨hl,YG A ⟨r1,Zf A (Zf A (Zi A (Zi A (Zi A (Zi A (Zf A (Zf A f1)))))))⟩⟩
   |refine Zg (λh=>?_) λh=>?_
   |(exfalso;omega))
 ·have d:(cJ agg n X g top).nu=[]:=by
   show(match d_ (1+av agg 5=5)with|true=>wy (g_ (av (c_ agg 10) 11))|false=>[])=_
   rw[nZ l]
  have e:(cJ agg n X g top).de=[]:=by
   show(match d_ (1+av agg 5=5)with|true=>wz (g_ (av (c_ agg 10) 11))|false=>[])=_
   rw[nZ l]
  refine bY (ks:=[AD,gF,GS]) (T:=[(9002,14,I1 14 (min n 6) (cW X) (1+av agg 5) (cJ agg n X g top).fl [] [] g top 1 0 (Hq (av g 64) 0),DF 14 (min n 6) (cW X) (1+av agg 5) (cJ agg n X g top).fl [] [] g top 7 (bM (av g 64) 6).length (Hq (av g 64) 6))]) (λσ=>iY _ σ) ?_
  have hl:=rO true (min n 6) (cW X) (1+av agg 5) (cJ agg n X g top).fl [] [] g top m
  rw[MN]
  have f1:=fin A A A A
  rw[d,e]at f1
  by_cases j:1+av agg 5>1
  ·rw[b j]at f1 hl⊢
   exact zV
  ·rw[f j]at f1 hl⊢
   exact zV
end
end Go.Sx
