/- Lemmas, part 13. -/
import Derived.Test.YtoijalagmmgkbaaGreatDoorX12
import Derived.Test.YtoijalagmmgkbaaGreatDoorX10
import Derived.Below
set_option linter.all false
set_option linter.defProp false
set_option maxRecDepth 1000000
namespace Go.Sx
open Go
open Int renaming ofNat->M,toNat->a_,emod->b_,natCast_nonneg->c_,fdiv->f_,tdiv->v_,le_refl->z_
open Decidable renaming decide->z
open List renaming take->d_,drop->e_,range->l_,all->m_
open AV renaming int->g_,le->x_,ab->C_
open Nat renaming ble->h_,blt->j_,beq->o_,le_trans->p_,blt_eq->r_,mul_div_le->s_,zero_add->t_,div_eq_of_lt->w_,zero_mod->y_,ble_eq->A_
open Bool renaming true_and->i_
open Go.IntKind renaming i64->k_
open AH renaming blank->n_
open Tr renaming ofList->q_
open Prod renaming snd->u_,fst->B_
noncomputable section
def small(x:ay):Prop:=(0<=x.t/\x.t<30)/\(0<=x.s/\x.s<4)/\(0<=x.v/\x.v<2)/\(0<=x.w/\x.w<3)/\(0<=x.o/\x.o<4)/\(-1<=x.p/\x.p<4)/\x.d=v_ x.t 10/\0<=x.l/\x.l<=x.h/\x.h<2199023255552+60/\(0<=x.b/\x.b<100)
def Zg{p}[Decidable p]{x y}(h:p->x)(k :¬ p->y):ah (decide p) x y:=Zh ZD ZD
def cC(b)(x)(h:b=true)(k:x):aa b x:=Ze h k
def mM{a k:Int}(h:aN k_ a=true)(e:0<k):aN k_ (v_ a k)=true:=by
 rw[nK]at*
 have key:∀b:Int,0<=b->0<=v_ b k/\v_ b k<=b:=λb c=>by
  rw[Int.tdiv_eq_ediv_of_nonneg c]
  exact⟨Int.ediv_nonneg c O,Int.ediv_le_self _ c⟩
 by_cases ha:0<=a
 ·have:=key a ha;omega
 ·have d:=key (-a) O
  rw[Int.neg_tdiv]at d
  omega
def eu.Vk{P I}(hI:I.Ok P)(ks:List (aC P I))(fuel){ι}(T:ι->lI){c ir}(n0:Nat)(J:ι->Prop)(S)(E)(d:ι->Nat)(a)(i0)
  (f:h_ I.G n0=true) (h:J i0)
  (b:∀i,J i->uA ks (mG P I (T i)) fuel ir (.code c) (S i) (tP n0 S E a (J (a i)/\d (a i)<d i/\(E (a i)).pick=(E i).pick) i)):eu P I ir c n0 (S i0) (E i0):=
 eu.ZH hI (λ_=>ks) (λi=>bm P I (T i)) fuel n0 J S E d a i0 f h b
def YE(m:Nat):eT:=.cells [.fn 157 [.ab (ar m) 1 (aG m)] []] (.ty 235)
def YT(v:Nat):eT:=.cells [.ab (ar v) 1 (aG v)] (.ty 182)
def qW(V:Nat->Int)(j:Int)(x:Nat):Int:=match j_ x (j+1).toNat with|true=>0|false=>V x
def t187(k m a:Nat)(c:AV)(W:Nat->Int)(b:LoopState)(n:Nat)(l:List (Nat×eT)):AH:={n:=n,t:=q_ ([(12,YT m),(13,.cells [.slice 15 0 0 k (some k) 1] (.ty 182)),(14,.cells [c] (.ty 182)),(15,.rows k 1 (ae W) (.ty 3)),(16,.cells [.ab k 1 (aG a)] (.ty 182)),(17,.tE),(18,.loop b none (q_ [(3,.ptr 12 0 0 0),(4,.ptr 13 0 0 0),(5,.ptr 14 0 0 0)]) 41 [15,16] (bg II 107) (bh II 107) 17)]++l)}
def LK(Pa n:Nat)(k m a R:Nat)(W:Nat->Int)(i:Int×Int):St:={t:=q_ [(1,.fn 158 [] [.ptr Pa 0 0 0,.ptr 14 0 0 0]),(5,.int k_ i.1),(6,.int k_ i.2)],nt:=26,H:=t187 k m a (.ab (ar R) 1 (aG R)) W .busy n [(Pa,YE m)],df:=[]}
def LL(Pa n:Nat)(k m a R:Nat)(W:Nat->Int)(q:Int):GE:=.one (.x 0 {t:=q_ [(5,.int k_ q)],nt:=26,H:=t187 k m a (.ab (ar R) 1 (aG R)) W .busy n [(Pa,YE m)],df:=[]})
def CT(e:Bool)(k m a R)(W)(q i j)(b)(Q):(kr [GF,SD] [] 159 2003 (bif e then 27 else 28) (LK (bif e then 20 else 21) (bif e then 27 else 28) k m a R W) (λ_=>LL (bif e then 20 else 21) (bif e then 27 else 28) k m a R W q) b Q (i,j))=(ah (z (i<j)) (aa (aN k_ (i+j)) (aa (aN k_ (f_ (b_ (i+j) 18446744073709551616) 2)) (aa (aN k_ (f_ (b_ (i+j) 18446744073709551616) 2+1)) (aa (cO (ar m) (aG m)&&z (0<=f_ (b_ (i+j) 18446744073709551616) 2+1)&&z (f_ (b_ (i+j) 18446744073709551616) 2+1<10000)&&h_ (ar m) 90000) (aa (z (ar R=ar R)&&true&&m_ (List.range.loop (ar R) []) λi=>z (aO R i=aO R i)&&true) (aa (cO (ar (numOf (ar m) (aG m)*a_ (f_ (b_ (i+j) 18446744073709551616) 2+1))) (aG (numOf (ar m) (aG m)*a_ (f_ (b_ (i+j) 18446744073709551616) 2+1)))&&cO (ar R) (aG R)&&o_ (ar (numOf (ar m) (aG m)*a_ (f_ (b_ (i+j) 18446744073709551616) 2+1))) (ar (numOf (ar (numOf (ar m) (aG m)*a_ (f_ (b_ (i+j) 18446744073709551616) 2+1))) (aG (numOf (ar m) (aG m)*a_ (f_ (b_ (i+j) 18446744073709551616) 2+1)))))&&o_ (ar R) (ar (numOf (ar R) (aG R)))&&h_ (ar (numOf (ar m) (aG m)*a_ (f_ (b_ (i+j) 18446744073709551616) 2+1))) 1000000) (ah (!decide (DA (numOf (ar (numOf (ar m) (aG m)*a_ (f_ (b_ (i+j) 18446744073709551616) 2+1))) (aG (numOf (ar m) (aG m)*a_ (f_ (b_ (i+j) 18446744073709551616) 2+1)))) (numOf (ar R) (aG R))>0)) (aa (aN k_ (f_ (b_ (i+j) 18446744073709551616) 2+1)) (zyN (ar m) (zyR (ar m) (aG m) (aT (bg II 107) (bg II 107)/\aT (bh II 107) (bh II 107)/\zyN k (zyR k (aG a) (zyN k (zyR k (ae W) (zyN (ar R) (zyR (ar R) (aG R) (zyN k (zyN k (zyN (ar m) (zyR (ar m) (aG m) (aH (f_ (b_ (i+j) 18446744073709551616) 2+1) (B_ (b (i,j))) (aH j (u_ (b (i,j))) Q))))))))))))))) (zyN (ar m) (zyR (ar m) (aG m) (aT (bg II 107) (bg II 107)/\aT (bh II 107) (bh II 107)/\zyN k (zyR k (aG a) (zyN k (zyR k (ae W) (zyN (ar R) (zyR (ar R) (aG R) (zyN k (zyN k (zyN (ar m) (zyR (ar m) (aG m) (aH i (B_ (b (i,j))) (aH (f_ (b_ (i+j) 18446744073709551616) 2) (u_ (b (i,j))) Q))))))))))))))))))))) (zyN (ar m) (zyR (ar m) (aG m) (aT (bg II 107) (bg II 107)/\aT (bh II 107) (bh II 107)/\zyN k (zyR k (aG a) (zyN k (zyR k (ae W) (zyN (ar R) (zyR (ar R) (aG R) (zyN k (zyN k (zyN (ar m) (zyR (ar m) (aG m) (aH i q True)))))))))))))):=by cases e<;>kernel_rfl
def Ev(k m a:Nat)(V:Nat->Int)(F:Int->Nat)(i:Bool×Int):St:={t:=q_ [(0,.yield 18),(1,.ptr 16 0 0 0),(3,.int k_ i.2)],nt:=19,H:=t187 k m a (match i.1 with|false=> .aw|true=> .ab (ar (F i.2)) 1 (aG (F i.2))) (qW V i.2) .ready 19 [],df:=[]}
def Ew(k m a:Nat)(V:Nat->Int)(F:Int->Nat):GE:=.cond (o_ k 0) (.one (.x 0 {t:=.e,nt:=19,H:=t187 k m a .aw (qW V (-1)) .ready 19 [],df:=[]})) (.one (.x 0 {t:=.e,nt:=19,H:=t187 k m a (.ab (ar (F (-1))) 1 (aG (F (-1)))) (qW V (-1)) .ready 19 [],df:=[]}))
def TQ(k m a R:Nat)(W:Nat->Int)(q:Int):lI:=[(2003,27,LK 20 27 k m a R W (0,9999),LL 20 27 k m a R W q),(2003,28,LK 21 28 k m a R W (0,9999),LL 21 28 k m a R W q)]
def wj(k m a R)(V)(F)(q j)(Q){b}(g:b=(numOf (ar m) (aG m)*a_ (bif z (0+j.toNat=0+j.toNat)then q else qW V j (0+j.toNat)))){c}(h:c=(numOf 1 λi=>d_ 1 (e_ (0+i*1) [g_ k_ (aO a j.toNat)]))){d}(l:d=(numOf (ar R) (aG R)-numOf (ar b) (aG b))){e}(n:e=(z (0<=j)&&z (j<M k))){f}(o:f=(zyN k (zyN (ar m) (zyR (ar m) (aG m) True)))):(kr [tS,Aj,SD] (TQ k m a R (qW V j) q) 212 1002 19 (Ev k m a V F) (λ_=>Ew k m a V F) (λi=>(true,i.2-1)) Q (false,j))=(ah (z (j>=0)) (aa e (aa ((cO 1 λi=>d_ 1 (e_ (0+i*1) [g_ k_ (aO a j.toNat)]))&&true) (eu PP II false (aD II 159 2003) 27 (LK 20 27 k m a R (qW V j) (0,9999)) (LL 20 27 k m a R (qW V j) q)/\zyN (ar m) (zyR (ar m) (aG m) (aT (bg II 107) (bg II 107)/\aT (bh II 107) (bh II 107)/\zyN k (zyR k (aG a) (zyN k (zyR k (ae (qW V j)) (ax (ar c) (ar R) (an (ar c) (aG c) (aG R)/\zyN k (zyN k (zyN (ar m) (zyR (ar m) (aG m) (aa (z (k=k)&&z (some k=Option.some k)&&true) (aa e (aa (z (0+j.toNat<k)) (aa e (aa (z (0+j.toNat<k)) (aa (cO (ar m) (aG m)&&z (0<=bif z (0+j.toNat=0+j.toNat)then q else qW V j (0+j.toNat))&&z ((bif z (0+j.toNat=0+j.toNat)then q else qW V j (0+j.toNat))<10000)&&h_ (ar m) 90000) (aa (z (ar R=ar R)&&true&&m_ (l_ (ar R)) λi=>z (aO R i=aO R i)&&true) (aa (cO (ar R) (aG R)&&cO (ar b) (aG b)&&h_ (numOf (ar b) (aG b)) (numOf (ar R) (aG R))&&h_ (ar R) 90000) (aa (aN k_ (j-1)) (aT (bg II 107) (bg II 107)/\aT (bh II 107) (bh II 107)/\zyN k (zyR k (aG a) (zyN k (an k (λi=>[g_ k_ (bif z (i=0+j.toNat)then q else qW V j i)]) (ae (qW V (j-1)))/\ax (ar d) (ar (F (j-1))) (an (ar d) (aG d) (aG (F (j-1)))/\zyN k (zyN k (zyN (ar m) (zyR (ar m) (aG m) (zyI (j-1) Q))))))))))))))))))))))))))))))) (ah (o_ k 0) (aT (bg II 107) (bg II 107)/\aT (bh II 107) (bh II 107)/\zyN k (zyR k (aG a) (zyN k (an k (ae (qW V j)) (ae (qW V (-1:Int)))/\zyN k f)))) (aT (bg II 107) (bg II 107)/\aT (bh II 107) (bh II 107)/\zyN k (zyR k (aG a) (zyN k (an k (ae (qW V j)) (ae (qW V (-1:Int)))/\ax (ar (F (-1:Int))) 0 (zyN k f))))))):=by subst_vars;kernel_rfl
def wk(k m a R)(V)(F)(q j)(Q){e}(f:e=(zyN k (zyN (ar m) (zyR (ar m) (aG m) (aa (z (k=k)&&z (some k=Option.some k)&&true) (aa (z (0<=j)&&z (j<M k)) (aa (z (0+j.toNat<k)) (aa (z (0<=j)&&z (j<M k)) (aa (z (0+j.toNat<k)) (aa (cO (ar m) (aG m)&&z (0<=bif z (0+j.toNat=0+j.toNat)then q else qW V j (0+j.toNat))&&z ((bif z (0+j.toNat=0+j.toNat)then q else qW V j (0+j.toNat))<10000)&&h_ (ar m) 90000) (aa (z (ar R=ar R)&&true&&m_ (l_ (ar R)) λi=>z (aO R i=aO R i)&&true) (aa (cO (ar R) (aG R)&&cO (ar (numOf (ar m) (aG m)*a_ (bif z (0+j.toNat=0+j.toNat)then q else qW V j (0+j.toNat)))) (aG (numOf (ar m) (aG m)*a_ (bif z (0+j.toNat=0+j.toNat)then q else qW V j (0+j.toNat))))&&h_ (numOf (ar (numOf (ar m) (aG m)*a_ (bif z (0+j.toNat=0+j.toNat)then q else qW V j (0+j.toNat)))) (aG (numOf (ar m) (aG m)*a_ (bif z (0+j.toNat=0+j.toNat)then q else qW V j (0+j.toNat))))) (numOf (ar R) (aG R))&&h_ (ar R) 90000) (aa (aN k_ (j-1)) (aT (bg II 107) (bg II 107)/\aT (bh II 107) (bh II 107)/\zyN k (zyR k (aG a) (zyN k (an k (λi=>[g_ k_ (bif z (i=0+j.toNat)then q else qW V j i)]) (ae (qW V (j-1)))/\ax (ar (numOf (ar R) (aG R)-numOf (ar (numOf (ar m) (aG m)*a_ (bif z (0+j.toNat=0+j.toNat)then q else qW V j (0+j.toNat)))) (aG (numOf (ar m) (aG m)*a_ (bif z (0+j.toNat=0+j.toNat)then q else qW V j (0+j.toNat)))))) (ar (F (j-1))) (an (ar (numOf (ar R) (aG R)-numOf (ar (numOf (ar m) (aG m)*a_ (bif z (0+j.toNat=0+j.toNat)then q else qW V j (0+j.toNat)))) (aG (numOf (ar m) (aG m)*a_ (bif z (0+j.toNat=0+j.toNat)then q else qW V j (0+j.toNat)))))) (aG (numOf (ar R) (aG R)-numOf (ar (numOf (ar m) (aG m)*a_ (bif z (0+j.toNat=0+j.toNat)then q else qW V j (0+j.toNat)))) (aG (numOf (ar m) (aG m)*a_ (bif z (0+j.toNat=0+j.toNat)then q else qW V j (0+j.toNat)))))) (aG (F (j-1)))/\zyN k (zyN k (zyN (ar m) (zyR (ar m) (aG m) (zyI (j-1) Q)))))))))))))))))))))){b}(g:b=[g_ k_ (aO a j.toNat)]){c}(h:c=(numOf (1+ar (F j)) λi=>bif j_ i 1 then d_ 1 (e_ (0+i*1) b)else aG (F j) (i-1))){d}(l:d=(numOf 1 λi=>d_ 1 (e_ (0+i*1) b))):(kr [tS,Aj,SD] (TQ k m a R (qW V j) q) 212 1002 19 (Ev k m a V F) (λ_=>Ew k m a V F) (λi=>(true,i.2-1)) Q (true,j))=(ah (z (j>=0)) (aa (z (0<=j)&&z (j<M k)) (aa (z ((1+ar (F j))*8<=140737488355328)&&true) (ah (z (ar (F j)=0)) (aa ((cO 1 λi=>d_ 1 (e_ (0+i*1) b))&&true) (eu PP II false (aD II 159 2003) 27 (LK 20 27 k m a R (qW V j) (0,9999)) (LL 20 27 k m a R (qW V j) q)/\zyN (ar m) (zyR (ar m) (aG m) (aT (bg II 107) (bg II 107)/\aT (bh II 107) (bh II 107)/\zyN k (zyR k (aG a) (zyN k (zyR k (ae (qW V j)) (ax (ar d) (ar R) (an (ar d) (aG d) (aG R)/\zyN k e))))))))) (aa ((m_ (l_ (1+ar (F j))) λi=>bt.free (bif j_ i 1 then d_ 1 (e_ (0+i*1) b)else aG (F j) (i-1)))&&z (1+ar (F j)<=1+ar (F j))) (aa ((cO (1+ar (F j)) λi=>bif j_ i 1 then d_ 1 (e_ (0+i*1) b)else aG (F j) (i-1))&&h_ (1+ar (F j)) 1000000) (eu PP II false (aD II 159 2003) 28 (LK 21 28 k m a R (qW V j) (0,9999)) (LL 21 28 k m a R (qW V j) q)/\zyN (ar m) (zyR (ar m) (aG m) (aT (bg II 107) (bg II 107)/\aT (bh II 107) (bh II 107)/\zyN k (zyR k (aG a) (zyN k (zyR k (ae (qW V j)) (ax (ar c) (ar R) (an (ar c) (aG c) (aG R)/\zyN k e))))))))))))) (ah (o_ k 0) (aT (bg II 107) (bg II 107)/\aT (bh II 107) (bh II 107)/\zyN k (zyR k (aG a) (zyN k (an k (ae (qW V j)) (ae (qW V (-1:Int)))/\False)))) (aT (bg II 107) (bg II 107)/\aT (bh II 107) (bh II 107)/\zyN k (zyR k (aG a) (zyN k (an k (ae (qW V j)) (ae (qW V (-1:Int)))/\ax (ar (F j)) (ar (F (-1:Int))) (an (ar (F j)) (aG (F j)) (aG (F (-1:Int)))/\zyN k (zyN k (zyN (ar m) (zyR (ar m) (aG m) True)))))))))):=by subst_vars;kernel_rfl
def P5(k m a)(V)(F)(Q){c}(f:c=(z (ar (F (-1:Int))=ar (F (-1:Int)))&&true&&m_ (l_ (ar (F (-1:Int)))) λi=>z (aO (F (-1:Int)) i=aO (F (-1:Int)) i)&&true)){b}(g:b=(numOf k λi=>ae (qW V (-1:Int)) (0+i))){d}(h:d=((m_ (l_ k) λi=>bt.free (ae (qW V (-1:Int)) i))&&z (0+k<=k))){e}(j:e=((cO k λi=>ae (qW V (-1:Int)) (0+i))&&h_ k 1000000)):(kb [tS] [(1002,19,Ev k m a V F (false,M k-1),Ew k m a V F)] 107 [.ab k 1 (aG a),.ab (ar m) 1 (aG m)] Q)=(aa (z (0<=M k)&&z (M k<=M k)&&xF (8*M k) 281474976710656&&h_ k 9223372036854775807) (aa (aN k_ (M k-1)) (eu PP II false (aD II 212 1002) 19 (Ev k m a V F (false,M k-1)) (Ew k m a V F)/\aT (bg II 107) (bg II 107)/\aT (bh II 107) (bh II 107)/\zyN k (zyR k (aG a) (ax (a_ (M k)) k (an (a_ (M k)) (λx=>[g_ k_ 0]) (ae (qW V (M k-1)))/\ax (a_ (M k)) k (ax (a_ (M k)) k (zyN (ar m) (zyR (ar m) (aG m) (zyI (M k-1) (ah (o_ k 0) (aa d (aa e (Q (AV.qP [C_ (ar b) 1 (aG b),AV.aw])))) (aa d (aa e (aa c (aa c (Q (AV.qP [C_ (ar b) 1 (aG b),C_ (ar (F (-1:Int))) 1 (aG (F (-1:Int)))]))))))))))))))))):=by subst_vars;kernel_rfl
def rA{a b}:DA a b>0↔b<a:=by
 unfold DA
 omega
def Iz(m R:Nat)(p:Int×Int):Int×Int:=match z (m*a_ ((p.1+p.2)/2+1)<=R)with
 |true=>((p.1+p.2)/2+1,p.2)
 |false=>(p.1,(p.1+p.2)/2)
def mO(v k):(z (ar v=ar v)&&true&&m_ (List.range.loop k []) λi=>z (aO v i=aO v i)&&true)=true:=zA
def vQ{e:Bool}{k m a R W}(f:0<m)(l:R<10000*m)(o:ar m<=80000):eu PP II false (aD II 159 2003) (bif e then 27 else 28) (LK (bif e then 20 else 21) (bif e then 27 else 28) k m a R W (0,9999)) (LL (bif e then 20 else 21) (bif e then 27 else 28) k m a R W (M (R/m))):=
 eu.of (ι:=Int×Int) Hs [GF,SD] (bm PP II []) 1000 (bif e then 27 else 28) (λp=>0<=p.1/\p.1<=M (R/m)/\M (R/m)<=p.2/\p.2<=9999) (LK (bif e then 20 else 21) (bif e then 27 else 28) k m a R W) (λ_=>LL (bif e then 20 else 21) (bif e then 27 else 28) k m a R W (M (R/m))) (λp=>(p.2-p.1).toNat) (Iz m R) (0,9999) (by cases e<;>rfl)
  ⟨z_ _,c_ _,by
   have:R/m<10000:=by rw[Nat.div_lt_iff_lt_mul f];exact l
   grind,z_ _⟩ λp q=>by
  obtain⟨i,j⟩:=p
  obtain⟨r,s,t,u⟩:=q
  change 0<=i at r
  change i<=((R/m:Nat):Int)at s
  change ((R/m:Nat):Int)<=j at t
  change j<=9999 at u
  refine(CT e k m a R W _ i j (Iz m R) _).mpr ?_
  have v:f_ (b_ (i+j) 18446744073709551616) 2=(i+j)/2:=by
   rw[show b_ (i+j) 18446744073709551616=i+j from Int.emod_eq_of_lt O O,Int.fdiv_eq_ediv_of_nonneg _ O]
  rw[v,bZ m,bZ (m*a_ ((i+j)/2+1)),bZ R]
  refine Zh (λh=>?_) λh=>?_
  ·simp only[bn]at h
   obtain⟨b,y⟩:∃n:Nat,(i+j)/2=(n:Int):=⟨((i+j)/2).toNat,O⟩
   have w:(n:Nat)->n<10000->ar (m*n)<=ar m+1:=λn hn=>eh _ _ (Ai hn (dw _))
   have ht:a_ ((i+j)/2+1)=b+1:=O
   have hx:Iz m R (i,j)=(match z (m*(b+1)<=R)with|true=>((i+j)/2+1,j)|false=>(i,(i+j)/2)):=by show(match z (m*a_ ((i+j)/2+1)<=R)with|true=>((i+j)/2+1,j)|false=>(i,(i+j)/2))=_;rw[ht]
   rw[ht]
   have g:=w (b+1) O
   have key:m*(b+1)<=R↔b<R/m:=by rw[Nat.mul_comm,<-Nat.le_div_iff_mul_le f];rfl
   refine Ze (aq O O) (Ze (aq O O) (Ze (aq O O) (Ze ?_ (Ze (mO _ _) (Ze ?_ (Zh (λc=>Ze (aq O O) ?_) λc=>?_))))))
   ·rw[cM];simp only[i_,bf,bn,A_];omega
   ·rw[cM,cM];rw[bf,bf];exact⟨ZD,kV O⟩
   ·simp only[Bool.not_eq_true',iK,rA]at c
    have d:z (m*(b+1)<=R)=true:=Y
    have x:b<R/m:=key.1 O
    rw[d]at hx
    refine YG A ⟨Zj λ_ _=>uq _ _ _,rfl,rfl,YG A ⟨Zj λ_ _=>uq _ _ _,YG A ⟨dG _ _,YG A ⟨Zj λ_ _=>uq _ _ _,YG A (YG A (YG A ⟨Zj λ_ _=>uq _ _ _,Zf Y (Zf (congrArg u_ hx).symm ⟨?_,?_,rfl⟩)⟩))⟩⟩⟩⟩
    all_goals grind
   ·simp only[Bool.not_eq_false',bn,rA]at c
    have d:z (m*(b+1)<=R)=false:=Y
    have x :¬ b<R/m:=O
    rw[d]at hx
    refine YG A ⟨Zj λ_ _=>uq _ _ _,rfl,rfl,YG A ⟨Zj λ_ _=>uq _ _ _,YG A ⟨dG _ _,YG A ⟨Zj λ_ _=>uq _ _ _,YG A (YG A (YG A ⟨Zj λ_ _=>uq _ _ _,Zf Y (Zf (congrArg u_ hx).symm ⟨?_,?_,rfl⟩)⟩))⟩⟩⟩⟩
    all_goals grind
  ·simp only[iK]at h
   refine YG A ⟨Zj λ_ _=>uq _ _ _,rfl,rfl,YG A ⟨Zj λ_ _=>uq _ _ _,YG A ⟨dG _ _,YG A ⟨Zj λ_ _=>uq _ _ _,YG A (YG A (YG A ⟨Zj λ_ _=>uq _ _ _,Zf ?_ trivial⟩))⟩⟩⟩⟩
   grind
def dm(v n):an n (aG v) (aG v):=Zj λ_ _=>uq _ _ _
def sV{k f g}(h:∀i,i<k->f i=g i):cO k f=cO k g/\numOf k f=numOf k g:=by
 have e:kh k f=kh k g:=by
  unfold kh
  refine List.map_congr_left λi hi=>?_
  unfold aM
  rw[h i (List.mem_range.1 hi)]
 refine⟨?_,by unfold numOf;rw[e]⟩
 unfold cO
 grind
def BY{x f}(hx:x<10000):aG (x+10000*f) 0=[.int k_ (M x)]:=by
 show [g_ _ (M (ob (x+10000*f) 0))]=_
 rw[sS,Nat.add_mul_mod_self_left,Nat.mod_eq_of_lt hx]
def LP{x f i}(hx:x<10000):aG (x+10000*f) (i+1)=aG f i:=by
 show [g_ _ (M (ob (x+10000*f) (i+1)))]=[g_ _ (M (ob f i))]
 rw[sT,Nat.add_mul_div_left _ _ O,w_ hx,t_]
def uU(a n):cO 1 (λi=>d_ 1 (e_ (0+i*1) [g_ k_ (aO a (a_ (M n)))]))=true/\numOf 1 (λi=>d_ 1 (e_ (0+i*1) [g_ k_ (aO a (a_ (M n)))]))=ob a n:=by
 have hl:=kN a n
 have h:=sV (k:=1) (f:=λi=>d_ 1 (e_ (0+i*1) [g_ k_ (aO a (a_ (M n)))])) (g:=aG (ob a n+10000*0)) λi hi=>by
  have:i=0:=O
  subst this
  rw[BY hl];rfl
 rw[h.1,h.2]
 refine⟨cM _ _,kY (eh _ _ ?_)⟩
 omega
def BZ(a n f):cO (1+ar f) (λi=>bif j_ i 1 then d_ 1 (e_ (0+i*1) [g_ k_ (aO a (a_ (M n)))])else aG f (i-1))=true/\numOf (1+ar f) (λi=>bif j_ i 1 then d_ 1 (e_ (0+i*1) [g_ k_ (aO a (a_ (M n)))])else aG f (i-1))=ob a n+10000*f:=by
 have hl:=kN a n
 have h:=sV (k:=1+ar f) (f:=λi=>bif j_ i 1 then d_ 1 (e_ (0+i*1) [g_ k_ (aO a (a_ (M n)))])else aG f (i-1)) (g:=aG (ob a n+10000*f)) λi hi=>by
  cases i with
  |zero=>rw[BY hl];rfl
  |succ i=>rw[LP hl];rfl
 rw[h.1,h.2]
 refine⟨cM _ _,kY (eh _ _ ?_)⟩
 have:=fY f
 grind
def IA(a n f):(m_ (l_ (1+ar f)) (λi=>bt.free (bif j_ i 1 then d_ 1 (e_ (0+i*1) [g_ k_ (aO a (a_ (M n)))])else aG f (i-1)))&&z (1+ar f<=1+ar f))=true:=by
 rw[bf]
 refine⟨List.all_eq_true.2 λi _=>?_,zA⟩
 cases i with
 |zero=>rfl
 |succ i=>rfl
def sW(a m:Nat)(j:Int):Nat:=sU a m (j+1).toNat
def pO(a m:Nat)(j:Int):Nat:=ob a j.toNat+10000*sW a m j
def P6{a m}(b:0<m)(n):pO a m (M n)/m=ob (a/m) n/\pO a m (M n)-m*(pO a m (M n)/m)=sW a m (M n-1)/\pO a m (M n)<10000*m:=by
 have e1:(M n+1).toNat=n+1:=by show((n:Int)+1).toNat=_;omega
 have c:(M n-1+1).toNat=n:=by show((n:Int)-1+1).toNat=_;omega
 have d:pO a m (M n)=ob a n+10000*sU a m (n+1):=by unfold pO sW;rw[e1];rfl
 obtain⟨e,f,g⟩:=Io (a:=a) b n
 rw[d]
 refine⟨e,?_,g⟩
 unfold sW
 rw[c,<-f]
 have:=Nat.div_add_mod (ob a n+10000*sU a m (n+1)) m
 omega
def sX{k n V q}(hq:q=V n):an k (λi=>[g_ k_ (bif z (i=0+a_ (M n))then q else qW V (M n) i)]) (ae (qW V (M n-1))):=λi _ σ=>by
 have e:(bif z (i=0+a_ (M n))then q else qW V (M n) i)=qW V (M n-1) i:=by
  have e1:(M n+1).toNat=n+1:=by show((n:Int)+1).toNat=_;omega
  have a:(M n-1+1).toNat=n:=by show((n:Int)-1+1).toNat=_;omega
  unfold qW
  rw[e1,a,hq,t_]
  show(bif z (i=n)then V n else _)=_
  by_cases h:i=n
  ·subst h
   have:j_ i i=false:=by rw[Bool.eq_false_iff];intro e;rw[r_]at e;omega
   grind
  ·rw[nZ h,cond_false]
   have:j_ i (n+1)=j_ i n:=by
    rw[Bool.eq_iff_iff,r_,r_];omega
   rw[this]
 show bt.le σ [g_ k_ (bif z (i=0+a_ (M n))then q else qW V (M n) i)] (ae (qW V (M n-1)) i)
 rw[e]
 exact zM _ _ _
set_option maxHeartbeats 2000000 in
def IB{k m a:Nat}(s:0<m)(ha:ar a<=k)(K:k<=80000)(g:ar m<=80000):eu PP II false (aD II 212 1002) 19 (Ev k m a (aO (a/m)) (sW a m) (false,M k-1)) (Ew k m a (aO (a/m)) (sW a m)):=
 eu.Vk (ι:=Bool×Int) Hs [tS,Aj,SD] 1000 (λp=>TQ k m a (pO a m p.2) (qW (aO (a/m)) p.2) (M (pO a m p.2/m))) 19 (λp=> -1<=p.2/\p.2<M k/\(p.1=false->p.2=M k-1)/\(p.1=true->0<k)) (Ev k m a (aO (a/m)) (sW a m)) (λ_=>Ew k m a (aO (a/m)) (sW a m)) (λp=>(p.2+1).toNat) (λp=>(true,p.2-1)) (false,M k-1) A
  ⟨by show -1<=(k:Int)-1;omega,by show(k:Int)-1<(k:Int);omega,λ_=>rfl,λh=>zE⟩ λp D=>by
  obtain⟨b,j⟩:=p
  obtain⟨E,d,B,F⟩:=D
  change -1<=j at E
  change j<M k at d
  by_cases q:0<=j
  ·obtain⟨n,rfl⟩:∃n:Nat,j=M n:=⟨j.toNat,(Int.toNat_of_nonneg q).symm⟩
   obtain⟨i,c,o⟩:=P6 (a:=a) s n
   have hq:M (pO a m (M n)/m)=aO (a/m) n:=by rw[i];rfl
   have t:=kN (a/m) n
   have G:pO a m (M n)/m<10000:=by rw[i];exact t
   have H:ar (pO a m (M n))<=80001:=by
    refine p_ (eh (ar m+1) _ ?_) O
    have:=fY m
    rw[Nat.pow_succ];omega
   have C:z (0+a_ (M n)=0+a_ (M n))=true:=bW A
   have u:a_ (M (pO a m (M n)/m))=pO a m (M n)/m:=rfl
   have v:(z (0<=M n)&&z (M n<M k))=true:=nM q d
   cases b with
   |false=>
    have y:sW a m (M n)=0:=by
     unfold sW
     rw[show(M n+1).toNat=k by have:=B A;change M n=(k:Int)-1 at this;omega]
     unfold sU
     rw[w_ (cN.1 ha),y_]
    have w:ob a n=pO a m (M n):=by unfold pO;rw[y];rfl
    refine(wj k m a (pO a m (M n)) (aO (a/m)) (sW a m) (M (pO a m (M n)/m)) (M n) _ A A A A A).mpr ?_
    rw[(uU a n).1,(uU a n).2,C,cond_true,bZ m,bZ (pO a m (M n)),u,bZ (m*(pO a m (M n)/m)),w]
    refine Zh (λ_=>Ze v (Ze A ⟨vQ (e:=true) s o g,YG A ⟨dm _ _,rfl,rfl,YG A ⟨dm _ _,YG A ⟨dG _ _,YG A ⟨dm _ _,YG A (YG A (YG A ⟨dm _ _,?_⟩))⟩⟩⟩⟩⟩)) (λh=>absurd q (of_decide_eq_false h))
    have f:(z (0<=M n)&&z (M n<M k))=true:=nM (c_ n) d
    have hn:z (0+a_ (M n)<k)=true:=bW (by show 0+n<k;have:(n:Int)<(k:Int):=d;omega)
    refine Ze zA (Ze f (Ze hn (Ze f (Ze hn (Ze ?_ (Ze (mO _ _) (Ze ?_ (Ze (aq (by show _<=(n:Int)-1;omega) (by have:(n:Int)<(k:Int):=d;show(n:Int)-1<=_;omega)) ⟨rfl,rfl,YG A ⟨dm _ _,YG A ⟨sX hq,YG (by rw[c]) ⟨by rw[c];exact dm _ _,YG A (YG A (YG A ⟨dm _ _,Zf A ⟨⟨by show -1<=(n:Int)-1;omega,by have:(n:Int)<(k:Int):=d;show(n:Int)-1<(k:Int);omega,(λh=>zE),λ_=>by have:(n:Int)<(k:Int):=d;omega⟩,by show((n:Int)-1+1).toNat<((n:Int)+1).toNat;omega,rfl⟩⟩))⟩⟩⟩⟩))))))))
    ·rw[cM,i_,bf];exact⟨nM (c_ _) zQ,kV O⟩
    ·rw[cM,cM,i_,bf,bf];exact⟨⟨rfl,kV (s_ _ _)⟩,kV O⟩
   |true=>
    refine(wk k m a (pO a m (M n)) (aO (a/m)) (sW a m) (M (pO a m (M n)/m)) (M n) _ A A A A).mpr ?_
    have I:ar (sW a m (M n))<=80000:=p_ (mI (Nat.le_of_lt (Nat.mod_lt _ s))) g
    rw[(uU a n).1,(uU a n).2,(BZ a n (sW a m (M n))).1,(BZ a n (sW a m (M n))).2,IA,C,cond_true,bZ m,bZ (pO a m (M n)),u,bZ (m*(pO a m (M n)/m))]
    refine Zh (λ_=>Ze v (Ze (by rw[bW (O:(1+ar (sW a m (M n)))*8<=140737488355328)];rfl) (Zh (λr=>?_) λ_=>?_))) (λh=>absurd q (of_decide_eq_false h))
    ·have y:sW a m (M n)=0:=by
      have r:=pT r
      have:=fY (sW a m (M n))
      rw[r]at this
      simpa using this
     have w:ob a n=pO a m (M n):=by unfold pO;rw[y];rfl
     rw[w]
     refine Ze A ⟨vQ (e:=true) s o g,YG A ⟨dm _ _,rfl,rfl,YG A ⟨dm _ _,YG A ⟨dG _ _,YG A ⟨dm _ _,YG A (YG A (YG A ⟨dm _ _,?_⟩))⟩⟩⟩⟩⟩
     have f:(z (0<=M n)&&z (M n<M k))=true:=nM (c_ n) d
     have hn:z (0+a_ (M n)<k)=true:=bW (by show 0+n<k;have:(n:Int)<(k:Int):=d;omega)
     refine Ze zA (Ze f (Ze hn (Ze f (Ze hn (Ze ?_ (Ze (mO _ _) (Ze ?_ (Ze (aq (by show _<=(n:Int)-1;omega) (by have:(n:Int)<(k:Int):=d;show(n:Int)-1<=_;omega)) ⟨rfl,rfl,YG A ⟨dm _ _,YG A ⟨sX hq,YG (by rw[c]) ⟨by rw[c];exact dm _ _,YG A (YG A (YG A ⟨dm _ _,Zf A ⟨⟨by show -1<=(n:Int)-1;omega,by have:(n:Int)<(k:Int):=d;show(n:Int)-1<(k:Int);omega,(λh=>zE),λ_=>by have:(n:Int)<(k:Int):=d;omega⟩,by show((n:Int)-1+1).toNat<((n:Int)+1).toNat;omega,rfl⟩⟩))⟩⟩⟩⟩))))))))
     ·rw[cM,i_,bf];exact⟨nM (c_ _) zQ,kV O⟩
     ·rw[cM,cM,i_,bf,bf];exact⟨⟨rfl,kV (s_ _ _)⟩,kV O⟩
    ·have w:ob a n+10000*sW a m (M n)=pO a m (M n):=rfl
     rw[w]
     refine Ze A (Ze (by rw[i_];exact kV O) ⟨vQ (e:=false) s o g,YG A ⟨dm _ _,rfl,rfl,YG A ⟨dm _ _,YG A ⟨dG _ _,YG A ⟨dm _ _,YG A (YG A (YG A ⟨dm _ _,?_⟩))⟩⟩⟩⟩⟩)
     have f:(z (0<=M n)&&z (M n<M k))=true:=nM (c_ n) d
     have hn:z (0+a_ (M n)<k)=true:=bW (by show 0+n<k;have:(n:Int)<(k:Int):=d;omega)
     refine Ze zA (Ze f (Ze hn (Ze f (Ze hn (Ze ?_ (Ze (mO _ _) (Ze ?_ (Ze (aq (by show _<=(n:Int)-1;omega) (by have:(n:Int)<(k:Int):=d;show(n:Int)-1<=_;omega)) ⟨rfl,rfl,YG A ⟨dm _ _,YG A ⟨sX hq,YG (by rw[c]) ⟨by rw[c];exact dm _ _,YG A (YG A (YG A ⟨dm _ _,Zf A ⟨⟨by show -1<=(n:Int)-1;omega,by have:(n:Int)<(k:Int):=d;show(n:Int)-1<(k:Int);omega,(λh=>zE),λ_=>by have:(n:Int)<(k:Int):=d;omega⟩,by show((n:Int)-1+1).toNat<((n:Int)+1).toNat;omega,rfl⟩⟩))⟩⟩⟩⟩))))))))
     ·rw[cM,i_,bf];exact⟨nM (c_ _) zQ,kV O⟩
     ·rw[cM,cM,i_,bf,bf];exact⟨⟨rfl,kV (s_ _ _)⟩,kV O⟩
  ·have x:j= -1:=by omega
   have l:an k (ae (qW (aO (a/m)) j)) (ae (qW (aO (a/m)) (-1))):=by rw[x];exact dG _ _
   cases b with
   |false=>
    have r:o_ k 0=true:=by have:=B A;change j=(k:Int)-1 at this;rw[Nat.beq_eq];omega
    refine(wj k m a (pO a m j) (aO (a/m)) (sW a m) (M (pO a m j/m)) j _ A A A A A).mpr ?_
    with_reducible refine Zh (λh=>?_) λ_=>Zh (λ_=>?_) λh=>?_
    ·exact absurd (pT h) q
    ·exact⟨rfl,rfl,YG A ⟨dm _ _,YG A ⟨l,YG A (YG A (YG A ⟨dm _ _,trivial⟩))⟩⟩⟩
    ·rw[r]at h;cases h
   |true=>
    have r:=F A
    have J:sW a m j=sW a m (-1):=by rw[x]
    refine(wk k m a (pO a m j) (aO (a/m)) (sW a m) (M (pO a m j/m)) j _ A A A A).mpr ?_
    rw[J]
    with_reducible refine Zh (λh=>?_) λ_=>Zh (λh=>?_) λ_=>?_
    ·exact absurd (pT h) q
    ·have:=dE h
     omega
    ·exact⟨rfl,rfl,YG A ⟨dm _ _,YG A ⟨l,YG A ⟨dm _ _,YG A (YG A (YG A ⟨dm _ _,trivial⟩))⟩⟩⟩⟩
def af.TR{P I}(hI:I.Ok P)(ks:List (aC P I)){d}(b:eR P I id d)(fuel){f args a'}
  (h:jE ks d fuel f args (n_ I.G) (fk I.G λa=> ∀σ,x_ σ a a') (λ_ _=>False)):af P I f args (n_ I.G) (.ret a' (n_ I.G)):=by
 obtain⟨o,i,j⟩:=fJ hI ks b fuel f args (n_ I.G) _ _ h
 cases o with
 |ret a H1=>
  obtain⟨x,H2,k1,k2⟩:=lm RI.dJ _ _ _ _ i
  cases c:h_ I.G H2.n with
  |false=>
   have k1:aa (h_ I.G H2.n) (∀σ,x_ σ x a'):=k1
   rw[c]at k1;exact k1.elim
  |true=>
   have k1:aa (h_ I.G H2.n) (∀σ,x_ σ x a'):=k1
   rw[c]at k1
   have k1:∀σ,x_ σ x a':=k1
   exact(j.vW k2).le (ky.of [] (im.of (by rfl) A A A c (gS.2 λ_ _=>trivial)) (k1 _))
 |qt a H1=>exact i.elim
def Al{ks T f args a'}(h:kb ks T f args (λa=> ∀σ,x_ σ a a')):af PP II f args (n_ 12) (.ret a' (n_ 12)):=
 af.TR Hs ks (bm PP II T) 1000 h
def jm(v:Nat):AV:=.ab (ar v) 1 (aG v)
def mP(σ)(v):x_ σ (jm v) (jm v):=⟨rfl,rfl,λ_ _=>uq _ _ _⟩
def GH{a m k:Nat}(j:0<m)(ha:ar a<=k)(l:k<=80000)(c:ar m<=80000):af PP II 107 [.ab k 1 (aG a),.ab (ar m) 1 (aG m)] (n_ 12) (.ret (.qP [jm (a/m),jm (a%m)]) (n_ 12)):=by
 refine Al (T:=[(1002,19,Ev k m a (aO (a/m)) (sW a m) (false,M k-1),Ew k m a (aO (a/m)) (sW a m))]) ((P5 k m a (aO (a/m)) (sW a m) _ A A A A).mpr ?_)
 have hq:ar (a/m)<=k:=p_ (mI (Nat.div_le_self a m)) ha
 have e:=sV (k:=k) (f:=λi=>ae (qW (aO (a/m)) (-1)) (0+i)) (g:=aG (a/m)) λi _=>by
  show [g_ _ (qW (aO (a/m)) (-1) (0+i))]=[g_ _ (aO (a/m) i)]
  rw[t_];rfl
 rw[e.1,e.2,cM,kY hq]
 have n:sW a m (-1)=a%m:=by show sU a m 0=_;unfold sU;rw[Nat.pow_zero,Nat.div_one]
 rw[n]
 have all:∀(k:Nat),(m_ (l_ k) λ_=>true)=true:=zA
 have b:(z (ar (a%m)=ar (a%m))&&true&&m_ (l_ (ar (a%m))) λi=>z (aO (a%m) i=aO (a%m) i)&&true)=true:=zA
 refine Ze (by simp only[bf,bn,iH,A_];grind) (Ze (aq Y Y) ⟨IB j ha l c,rfl,rfl,YG A ⟨dm _ _,YG A ⟨?_,YG A (YG A (YG A ⟨dm _ _,Zf A (Zh (λh=>?_) λ_=>?_)⟩))⟩⟩⟩)
 ·intro i hi σ
  have hi:i<k:=hi
  show bt.le σ [g_ k_ 0] [g_ k_ (qW (aO (a/m)) (M k-1) i)]
  have e1:(M k-1+1).toNat=k:=by show((k:Int)-1+1).toNat=_;omega
  have:qW (aO (a/m)) (M k-1) i=0:=by
   unfold qW
   rw[e1,show j_ i k=true by simp_all]
  rw[this]
  exact⟨⟨rfl,rfl⟩,trivial⟩
 ·have o:k=0:=dE h
  have d:a=0:=by have:=cN.1 (O:ar a<=0);simpa using this
  refine Ze (dZ (all _) (bW O)) (Ze (dZ A (kV O)) λσ=>⟨mP σ _,?_,trivial⟩)
  show ar (a%m)=0
  rw[d,y_,DC]
 ·exact Ze (dZ (all _) (bW O)) (Ze (dZ A (kV O)) (Ze b (Ze b λσ=>⟨mP σ _,mP σ _,trivial⟩)))
def WC:aC PP II:=aC.pure 107
 (λX args a=>match args with
  |[.ab k 1 f,.ab m 1 g]=>X.bq (cO k f&&cO m g&&j_ 0 (numOf m g)&&o_ m (ar (numOf m g))&&h_ k 80000&&h_ m 80000) (a (.qP [jm (numOf k f/numOf m g),jm (numOf k f%numOf m g)]))
  |_=>X.fail)
 λX sem hX args a h=>by
  split at h
  ·rename_i k f m g
   obtain⟨b,c⟩:=hX.bq _ _ h
   simp only[bf]at b
   obtain⟨⟨⟨⟨⟨a1,a2⟩,d⟩,e⟩,i⟩,j⟩:=b
   have l:0<numOf m g:=by rwa[r_]at d
   have n:=dE e
   have o:=jX j
   refine⟨_,c,λ_=>rfl,λ_=>rfl,?_⟩
   have l2:=gT a2
   exact(GH (m:=numOf m g) l (eh _ _ (j7 a1).1) (jX i) O).dq ⟨gT a1,⟨n,rfl,l2.2.2⟩,trivial⟩
  ·exact zR
def Rel.under{c ρ H w w'}(h:Rel c ρ H w)(k:Go.RowKit.Below w.heap.size w w'):Rel c ρ H w' where
 dF l:=by
  by_cases d:H.get l= .dead
  ·rw[d];trivial
  ·exact bp.world (λr N i=>k.block r (h.lt d i)) (h.dF l)
 sep:=h.sep
 gL:=h.gL
 gH j a:=⟨(h.gH j a).1,(k.block j (Nat.lt_of_lt_of_le (h.gH j a).1 h.size)).trans (h.gH j a).2⟩
 size:=p_ h.size k.size
 os:=k.os.trans h.os
 output:=k.output.trans h.output
 tape:=k.tape.trans h.tape
 top:=h.top
 fp:=h.fp
 hid:=h.hid
 env:=h.env
 low:=h.low
 qY b vs m:=by
  obtain⟨el,fr,f⟩:=h.qY b vs m
  exact⟨el,fr,(k.block b (Array.getElem?_eq_some_iff.1 f).1).trans f⟩
 pV:=h.pV
 xw:=h.xw
 qZ:=h.qZ
def af.oB{P I f args a H}(d:∀(vs)(w),(callFunc f vs).run P w= .ok (.enter f vs) w)
  (h:∀c ρ w vs,c.G=I.G->aU ρ args vs->Rel c ρ H w->Calls P f vs.toArray w λe w'=> ∃v,e= .returned v/\VR ρ a v/\Go.RowKit.Below w.heap.size w w'):af P I f args H (.ret a H):=by
 intro c ρ w vs hG i b
 refine .inl ⟨d _ _,(h c ρ w vs hG i b).mono ?_⟩
 rintro e w' ⟨v,rfl,h1,j⟩
 exact⟨ρ,Ext.refl ρ,b.under j,h1⟩
end
end Go.Sx
