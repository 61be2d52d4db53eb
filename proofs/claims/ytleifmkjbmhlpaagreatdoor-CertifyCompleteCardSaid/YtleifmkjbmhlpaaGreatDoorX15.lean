/- The proof of a statement of the seat, part 15. -/
import Derived.Test.YtleifmkjbmhlpaaGreatDoorX14
import Derived.Test.YtleifmkjbmhlpaaGreatDoorX11
import Derived.Below
import Derived.Test.YtleifmkjbmhlpaaGreatDoorX13
set_option linter.all false
set_option linter.defProp false
set_option maxRecDepth 1000000
namespace Go.Sx
open Go
open Int renaming ofNat->M,toNat->z,emod->b_,fdiv->c_,natCast_nonneg->d_,tdiv->g_,tdiv_eq_ediv_of_nonneg->r_,le_refl->u_,fdiv_eq_ediv_of_nonneg->x_,emod_eq_of_lt->F_
open Decidable renaming decide->a_
open Nat renaming blt->e_,beq->f_,ble->m_,blt_eq->q_,zero_add->t_,le_trans->v_,mul_div_le->y_,div_lt_iff_lt_mul->A_,le_div_iff_mul_le->B_,ble_eq->D_,div_eq_of_lt->G_,sub_self->I_,mul_comm->J_,zero_mod->K_
open List renaming take->h_,drop->i_,all->o_,range->p_
open Bool renaming true_and->j_,not_eq_false'->C_,not_eq_true'->E_
open AV renaming int->k_,le->H_,ae->L_
open Go.IntKind renaming i64->l_
open AH renaming blank->n_
open Prod renaming snd->s_,fst->z_
open Tr renaming ofList->w_
noncomputable section
def aaA{p}[Decidable p]{x y}(h:p->x)(k :¬ p->y):ak (decide p) x y:=aaz (by simp_all) (by simp_all)
def ZE(b)(x)(h:b=true)(k:x):B b x:=ZF h k
def KA(X)(σ)(j):bj.le σ (eK X j) (eK X j):=⟨⟨rfl,rfl⟩,⟨rfl,rfl⟩,⟨rfl,rfl⟩,⟨rfl,rfl⟩,trivial⟩
def qY(n)(X):an n (eK X) (eK X):=aaX λσ j=>KA X σ j
def KB(m)(F:Nat->ao):an m (λj=>aB (F j)) λj=>aB (F j):=aaX λσ j=>dM σ (F j)
def Dm{m g}{F:Nat->ao}(h:∀j,j<m->g j=aB (F j)):an m g λj=>aB (F j):=λj a σ=>by rw[h j a];exact dM σ (F j)
def eO{a k:Int}(h:aJ l_ a=true)(e:0<k):aJ l_ (g_ a k)=true:=by
 rw[pP]at*;have key:∀b:Int,0<=b->0<=g_ b k/\g_ b k<=b:=λb c=>by rw[r_ c];exact⟨Int.ediv_nonneg c O,Int.ediv_le_self _ c⟩
 by_cases ha:0<=a
 grind
 ·have d:=key (-a) O;rw[Int.neg_tdiv]at d;omega
def KC{x f}:AW x f=true↔x.t<f.t∨(x.t=f.t/\x.s<f.s):=by
 simp only[AW,Bool.or_eq_true,ba,bl]
def KD{x f}:AW x f=false↔ ¬ (x.t<f.t∨(x.t=f.t/\x.s<f.s)):=by
 rw[<-KC];simp
def KF{x f}:OU x f=true↔x.t=f.t/\x.s=f.s:=by
 simp only[OU,ba,bl]
def Iq(n)(X)(i)(L)(f)(x:L.length<=1000):
  ay PP II false (az II 10 12034) 96 (vF n X ⟨i,false,L.length,bm L⟩ f 0) (uq n X ⟨i,false,L.length,bm L⟩ f (dE L f)):=
 ay.of (ι:=Int) fU [] (aX PP II []) 1000 96 (λk=>0<=k/\k<=dE L f) (vF n X ⟨i,false,L.length,bm L⟩ f) (λ_=>uq n X ⟨i,false,L.length,bm L⟩ f (dE L f)) (λk=>(dE L f-k).toNat) (λk=>k+1) 0 A ⟨u_ _,d_ _⟩ λk y=>by
  refine(Ip n X i _ _ f _ k _).mpr ?_;have C:=um L f;have D:M L.length=(L.length:Int):=rfl;have same:∀{Z:Prop},Z->aS (ao.t f) (ao.t f) (aS (ao.s f) (ao.s f) (aS (ao.v f) (ao.v f) (aS (ao.w f) (ao.w f) (aS (ao.o f) (ao.o f) (aS (ao.p f) (ao.p f) (aS (ao.d f) (ao.d f) (aS (ao.l f) (ao.l f) (aS (ao.h f) (ao.h f) (aS (ao.b f) (ao.b f)
    (bh L.length L.length ((an L.length (λj=>aB (bm L j)) λj=>aB (bm L j))/\bh L.length L.length (bh n n (an n (eK X) (eK X)/\aS i i Z))))))))))))):=λa=>
   aag A (aag A (aag A (aag A (aag A (aag A (aag A (aag A (aag A (aag A (aan A ⟨KB _ _,aan A (aan A ⟨qY _ _,aag A a⟩)⟩))))))))))
  by_cases r:k<dE L f
  ·have g:=Kz L f k.toNat O;rw[KC]at g;have c:(a_ (0<=k)&&a_ (k<M L.length))=true:=by simp only[ba,bl];omega
   have e:a_ (z k<L.length)=true:=Y;have hi:aJ l_ (k+1)=true:=ai O O;have go:aS (k+1) (k+1) ((0<=k+1/\k+1<=dE L f)/\(dE L f-(k+1)).toNat<(dE L f-k).toNat/\(uq n X ⟨i,false,L.length,bm L⟩ f (dE L f)).pick=(uq n X ⟨i,false,L.length,bm L⟩ f (dE L f)).pick):=aag A Y;refine aaA (λ_=>ZF c (ZF e (aaA (λh=>ZF hi (same go)) λh=>ZF c (ZF e (aaA (λm=>ZF c (ZF e (aaA (λh3=>ZF hi (same go)) λh3=>?_))) λm=>?_))))) λh=>?_
   all_goals omega
  ·have q:k=dE L f:=by omega
   have go:aS k (dE L f) True:=aag q trivial;refine aaA (λE=>?_) λ_=>same go
   have g:=Dk L f O;rw[KD]at g;have u:k.toNat=dE L f:=O;have c:(a_ (0<=k)&&a_ (k<M L.length))=true:=by simp only[ba,bl];omega
   have e:a_ (z k<L.length)=true:=Y;rw[<-u]at g;refine ZF c (ZF e (aaA O λh=>ZF c (ZF e (aaA (λm=>ZF c (ZF e (aaA O λh3=>same go))) λm=>same go))))
def Fj(n)(X)(i)(m)(F)(f):
  ay PP II false (az II 10 12034) 96 (vF n X ⟨i,true,m,F⟩ f 0) (uq n X ⟨i,true,m,F⟩ f 0):=
 ay.of (ι:=Int) fU [] (aX PP II []) 1000 96 (λk=>k=0) (vF n X ⟨i,true,m,F⟩ f) (λ_=>uq n X ⟨i,true,m,F⟩ f 0) (λk=>0) (λk=>k+1) 0 A A λk a=>by refine(Fi n X i _ _ f _ k _).mpr ?_;exact aaA O λ_=>aag A (aag A (aag A (aag A (aag A (aag A (aag A (aag A (aag A (aag A (aan A ⟨qY _ _,aag A (aag a trivial)⟩))))))))))
def MN{K N}{F G:Nat->ao}{f}(c:N<=K+1)(hG:∀i,G i=if i<K then F i else if i=K then f else F (i-1)):
  an N (λi=>bif e_ i K then aB (F (0+i))else h_ 10 (i_ (0+(i-K)*10) (aB f))) λj=>aB (G j):=by
 refine Dm λj a=>?_
 rw[hG];by_cases h:j<K
 ·rw[if_pos h,(q_ ..).mpr h,cond_true,t_]
 ·have a:j=K:=by omega
  have b:e_ j K=false:=by
   cases b:e_ j K with
   |false=>rfl
   |true=>simp_all
  rw[if_neg h,if_pos a,b,cond_false,a,I_];rfl
def MO{K N}{F G:Nat->ao}{f}(hG:∀i,G i=if i<K then F i else if i=K then f else F (i-1)):
  an N (λi=>bif e_ i K then aB (F (0+i))else bif e_ (i-K) 1 then h_ 10 (i_ (0+(i-K)*10) (aB f))else aB (F (K+(i-K-1)))) λj=>aB (G j):=by
 refine Dm λj d=>?_
 rw[hG];by_cases h:j<K
 ·rw[if_pos h,(q_ ..).mpr h,cond_true,t_]
 ·have a:e_ j K=false:=by
   cases a:e_ j K with
   |false=>rfl
   |true=>exact absurd (by simp_all) h
  rw[if_neg h,a,cond_false];by_cases b:j=K
  ·rw[if_pos b,b,I_];rfl
  ·have c:e_ (j-K) 1=false:=by
    cases a:e_ (j-K) 1 with
    |false=>rfl
    |true=>have:=(q_ ..).mp a;omega
   grind
def xOk(X:Nat->Nat->Int)(j:Nat):Prop:=aJ l_ (X j 0)=true/\aJ l_ (X j 1)=true/\aJ l_ (X j 2)=true/\aJ l_ (X j 3)=true
def MP(n)(X)(i)(j:Nat)(ad:i=(j:Int))(L)(eN)(iN)(mN)(FN)(Q)(f)(b:f=lD (X j 0) (X j 1) (X j 2) (X j 3))(hx:xOk X j)(hj:j<n)(ap:j<40)(hL:L.length<=40)(h0:L≠[])(hQ:Q):
  kr [r9] [(12034,96,vF n X ⟨i,false,L.length,bm L⟩ f 0,uq n X ⟨i,false,L.length,bm L⟩ f (dE L f))] 10 3008 12 (OV n X) (λ_=>T7 n X eN iN mN FN) (λ_=>⟨i+1,false,(oh L f).length,bm (oh L f)⟩) Q ⟨i,false,L.length,bm L⟩:=by
 refine(BN n X i L.length _ (bm L) _ f _ _ iN eN mN FN Q).mpr ?_;have hl:0<L.length:=Y;have e1:z i=j:=O;rw[e1];obtain⟨H,v,x2,D⟩:=hx;have a:=Iq n X i L f O;have h1:=bF (c:=X j 0) (n:=30) O;have h3:=bF (c:=X j 1) (n:=2) O;have h5:=bF (c:=g_ (X j 1) 3000) (n:=2) O;have h6:=bF (c:=g_ (X j 1) 6) (n:=5) O;have h8:=bF (c:=X j 2) (n:=40) O;have I:=bF (c:=X j 2) (n:=2199023255552) O;have J:=bF (c:=g_ (X j 3) 4) (n:=3) O;have o:=bF (c:=g_ (X j 3) 12) (n:=30) O;have P:=vE J.1 J.2 o.1 o.2;have R:0<=g_ (aj (X j 0) 30) 10/\g_ (aj (X j 0) 30) 10<=3:=by rw[r_ h1.1];omega
 have t1:=eO H (k:=30) O;have t2:=eO v (k:=2) O;have S:=eO v (k:=6) O;have T:=eO v (k:=30) O;have U:=eO v (k:=3000) O;have V:=eO D (k:=4) O;have W:=eO D (k:=12) O;have E:(a_ ((0:Int)<=i)&&a_ (i<M n))=true:=by simp only[ba,bl];show 0<=i/\i<(n:Int);omega
 have en:M n=(n:Int):=rfl;have em:M L.length=(L.length:Int):=rfl;refine aaA (λ_=>?_) O;refine aaA (λ_=>?_) O
 repeat' (first
  |refine ZF (by first|exact E|exact bK A|(rw[H];rfl)|(rw[v];rfl)|(rw[x2];rfl)|(rw[D];rfl)|exact t1|exact t2|exact S|exact T|exact U|exact V|exact W|(rw[t1];rfl)|(rw[t2];rfl)|(rw[S];rfl)|(rw[T];rfl)|(rw[U];rfl)|(rw[V];rfl)|(rw[W];rfl)|exact ai O O) ?_
  |(refine aaA (p:=aj (X j 3) 4=3) (λq=>?_) λq=>?_))
 all_goals
  refine⟨a,?_⟩;have fl:f.l=ul (X j 2) (X j 3):=by rw[b];rfl
  unfold ul at fl
  first
   |rw[bK q]at fl
   |rw[nJ q]at fl
  simp only at fl;have fh:f.h=f.l+aj (g_ (X j 3) 4) 3*aj (g_ (X j 3) 12) 30:=by rw[b];rfl
  refine aag (by rw[b];rfl) (aag (by rw[b];rfl) (aag (by rw[b];rfl) (aag (by rw[b];rfl) (aag (by rw[b];rfl) (aag (by rw[b];rfl) (aag (by rw[b];rfl) (aag (by rw[fl]) (aag (by rw[fh,fl]) (aag (by rw[b];rfl) ?_)))))))));refine aan A ⟨KB _ _,aan A (aan A ⟨qY _ _,aag A ?_⟩)⟩;clear h1 h3 h5 h6 h8 I J o P R t1 t2 S T U V W H v x2 D fl fh q a;have hp:=um L f;have w:=Dk L f;rw[KD]at w;have x:=uo L f;have em:M L.length=(L.length:Int):=rfl;have ek:z ((dE L f:Nat):Int)=dE L f:=rfl;have Z:z (((dE L f:Nat):Int)-0)=dE L f:=O;have aa:z (M L.length-((dE L f:Nat):Int))=L.length-dE L f:=O;have hi:aJ l_ (i+1)=true:=ai O O;rw[Z,aa,ek];by_cases G:dE L f<L.length/\(bm L (dE L f)).t=f.t/\(bm L (dE L f)).s=f.s
  ·have y:oh L f=L:=by
    rw[x,(q_ ..).mpr G.1,KF.2 G.2];rfl
   rw[y];have E:(a_ ((0:Int)<=((dE L f:Nat):Int))&&a_ (((dE L f:Nat):Int)<M L.length))=true:=by simp only[ba,bl];omega
   have q:a_ (dE L f<L.length)=true:=bK G.1;refine aaA (λ_=>ZF E (ZF q ?_)) O;refine aaA (λ_=>ZF E (ZF q ?_)) O;refine aaA (λ_=>?_) O;refine ZE _ _ hi ?_;refine aan A ⟨KB _ _,?_⟩;refine aan A (aan A ⟨qY _ _,aag A hQ⟩)
  ·have u:(e_ (dE L f) L.length&&OU (bm L (dE L f)) f)=false:=by
    cases hx:(e_ (dE L f) L.length&&OU (bm L (dE L f)) f)with
    |false=>rfl
    |true=>rw[ba,q_,KF]at hx;exact absurd hx G
   have d:=QL u;have C:=Fe u;rw[C];generalize dE L f=K at*;generalize oh L f=L' at*;generalize bm L=F at*;generalize L.length=m at*;clear u x w;have e:∀{N:Nat}{g:Nat->List AV},N=m+1->an N g (λj=>aB (bm L' j))->B (aJ l_ (i+1)) (bh N (m+1) ((an N g λj=>aB (bm L' j))/\bh N (m+1) (bh n n (an n (eK X) (eK X)/\aS (i+1) (i+1) Q)))):=λh r=>
    ZE _ _ hi (aan h ⟨r,aan h (aan A ⟨qY _ _,aag A hQ⟩)⟩)
   repeat' (first
    |refine ZE _ _ (by simp only[ba,Bool.and_true,bl];omega) ?_
    |refine ZE _ _ zA ?_
    |exact e O (MN O d)
    |exact e O (MO d)
    |refine aaA (λh=>?_) λh=>?_
    |omega
    |exact absurd ‹_› O)
def ay.ofT{P I}(hI:I.Ok P)(ks:List (ax P I))(fuel){ι}(T:ι->l6){c ir}(n0:Nat)(J:ι->Prop)(S)(E)(f:ι->Nat)(d)(i0)
  (o:m_ I.G n0=true) (q:J i0)
  (j:∀i,J i->w7 ks (mO P I (T i)) fuel ir (.code c) (S i) (wo n0 S E d (J (d i)/\f (d i)<f i/\(E (d i)).pick=(E i).pick) i)):ay P I ir c n0 (S i0) (E i0) where
 h s0 m t:=by
  subst m;refine th (S:=S) (E:=λi=>(E i).pick) (J:=J) f (by simp_all) q t λi hi=>?_
  obtain⟨e,l,u⟩:=pN hI ks (aX P I (T i)) fuel ir _ _ _ (j i hi);refine⟨e,u,?_⟩;cases e with
  |n s=>obtain⟨k1,k2,v,w⟩:=oH.ok (K:=J (d i)/\f (d i)<f i/\(E (d i)).pick=(E i).pick) l;exact⟨d i,k2,v,k1,w⟩
  |x b s=>exact GE.fJ (g:=E i) l
  |g b s=>exact GE.fJ (g:=E i) l
  |r s=>exact GE.fJ (g:=E i) l
  |p a s=>assumption
def Ir(n)(X)(i)(m)(F)(r)(s)(t)(u)(Q)(f)(a:f=lD (X 0 0) (X 0 1) (X 0 2) (X 0 3))(hx:xOk X 0)(hi:i=0)(S:0<n)(hQ:Q):
  kr [r9] [(12034,96,vF n X ⟨i,true,m,F⟩ f 0,uq n X ⟨i,true,m,F⟩ f 0)] 10 3008 12 (OV n X) (λ_=>T7 n X r s t u) (λ_=>⟨i+1,false,1,bm [f]⟩) Q ⟨i,true,m,F⟩:=by
 refine(yY n X i m 1 F (bm [f]) f (i+1) s r t u Q).mpr ?_;have H:z i=0:=O;rw[H];obtain⟨v,d,I,g⟩:=hx;have b:=Fj n X i m F f;have J:=bF (c:=X 0 0) (n:=30) O;have h3:=bF (c:=X 0 1) (n:=2) O;have T:=bF (c:=g_ (X 0 1) 3000) (n:=2) O;have U:=bF (c:=g_ (X 0 1) 6) (n:=5) O;have V:=bF (c:=X 0 2) (n:=40) O;have K:=bF (c:=X 0 2) (n:=2199023255552) O;have w:=bF (c:=g_ (X 0 3) 4) (n:=3) O;have e:=bF (c:=g_ (X 0 3) 12) (n:=30) O;have L:=vE w.1 w.2 e.1 e.2;have N:0<=g_ (aj (X 0 0) 30) 10/\g_ (aj (X 0 0) 30) 10<=3:=by rw[r_ J.1];omega
 have t1:=eO v (k:=30) O;have t2:=eO d (k:=2) O;have x:=eO d (k:=6) O;have y:=eO d (k:=30) O;have C:=eO d (k:=3000) O;have D:=eO g (k:=4) O;have E:=eO g (k:=12) O;have W:M n=(n:Int):=rfl;have P:(a_ ((0:Int)<=i)&&a_ (i<M n))=true:=by simp only[ba,bl];omega
 have o:aJ l_ (i+1)=true:=ai O O;refine aaA (λ_=>?_) O;refine aaA (λ_=>?_) O
 repeat' (first
  |refine ZF (by first|exact P|exact bK A|(rw[v];rfl)|(rw[d];rfl)|(rw[I];rfl)|(rw[g];rfl)|exact t1|exact t2|exact x|exact y|exact C|exact D|exact E|(rw[t1];rfl)|(rw[t2];rfl)|(rw[x];rfl)|(rw[y];rfl)|(rw[C];rfl)|(rw[D];rfl)|(rw[E];rfl)|exact ai O O) ?_
  |(refine aaA (p:=aj (X 0 3) 4=3) (λq=>?_) λq=>?_))
 all_goals
  refine⟨b,?_⟩;have fl:f.l=ul (X 0 2) (X 0 3):=by rw[a];rfl
  unfold ul at fl
  first
   |rw[bK q]at fl
   |rw[nJ q]at fl
  simp only at fl;have R:f.h=f.l+aj (g_ (X 0 3) 4) 3*aj (g_ (X 0 3) 12) 30:=by rw[a];rfl
  refine aag (by rw[a];rfl) (aag (by rw[a];rfl) (aag (by rw[a];rfl) (aag (by rw[a];rfl) (aag (by rw[a];rfl) (aag (by rw[a];rfl) (aag (by rw[a];rfl) (aag (by rw[fl]) (aag (by rw[R,fl]) (aag (by rw[a];rfl) ?_)))))))));refine aan A ⟨qY _ _,aag A ?_⟩;refine ZE _ _ o ?_;refine aan A ⟨Dm λj G=>?_,aan A (aan A ⟨qY _ _,aag A hQ⟩)⟩;have G:j=0:=O;subst G;rfl
def cj(X:Nat->Nat->Int)(j:Nat):Made:=⟨j,f_ j 0,(fp X j).length,bm (fp X j)⟩
def Va(l)(f):oh l f≠[]:=by
 cases l with
 |nil=>simp[oh]
 |cons x l=>unfold oh;grind
def QO(X){j}(h:0<j):fp X j≠[]:=by
 cases j with
 |zero=>omega
 |succ j=>exact Va _ _
def MQ(n)(X)(j)(T:l6)(g)(a)(b)(c)(Q)(o:j=min n 40)(l:T=[(12034,96,vF n X (cj X j) dp 0,uq n X (cj X j) dp 0)])(d:g=λ_=>⟨a,false,b,c⟩):
  kr [r9] T 10 3008 12 (OV n X) (λ_=>T7 n X (cj X j).e (cj X j).i (cj X j).m (cj X j).F) g Q (cj X j):=by
 subst l d;have p:M n=(n:Int):=rfl;by_cases k:j=0
 ·have e:cj X j=⟨(cj X j).i,true,(cj X j).m,(cj X j).F⟩:=by subst k;rfl
  have f:(cj X j).i=0:=by subst k;rfl
  rw[e];generalize (cj X j).i=i at*;generalize (cj X j).m=m at*;generalize (cj X j).F=F at*;refine(yY n X i m b F c dp a i true m F Q).mpr ?_;refine aaA O λ_=>?_
  exact aan A ⟨qY _ _,aag A trivial⟩
 ·have e:cj X j=⟨(cj X j).i,false,(cj X j).m,(cj X j).F⟩:=by
   unfold cj;have:f_ j 0=false:=by
    cases q:f_ j 0 with
    |false=>rfl
    |true=>simp_all
   rw[this]
  have f:(cj X j).i=(j:Int):=rfl;rw[e];generalize (cj X j).i=i at*;generalize (cj X j).m=m at*;generalize (cj X j).F=F at*;have done:bh m m ((an m (λj=>aB (F j)) λj=>aB (F j))/\bh m m (bh n n (an n (eK X) (eK X)/\aS i i True))):=aan A ⟨KB _ _,aan A (aan A ⟨qY _ _,aag A trivial⟩)⟩;refine(BN n X i m b F c dp 0 a i false m F Q).mpr ?_;refine aaA (λh=>?_) λ_=>done
  exact aaA O λ_=>done
def MR(n)(X)(hx:∀j,j<n->xOk X j):
  ay PP II false (az II 10 3008) 12 (OV n X (cj X 0)) (T7 n X (cj X (min n 40)).e (cj X (min n 40)).i (cj X (min n 40)).m (cj X (min n 40)).F):=by
 have key:=ay.ofT (ι:=Nat) fU [r9] 1000
  (λj=>[(12034,96,vF n X (cj X j) (bif f_ j (min n 40)then dp else lD (X j 0) (X j 1) (X j 2) (X j 3)) 0,uq n X (cj X j) (bif f_ j (min n 40)then dp else lD (X j 0) (X j 1) (X j 2) (X j 3)) (bif f_ j (min n 40)then 0 else bif f_ j 0 then 0 else(dE (fp X j) (lD (X j 0) (X j 1) (X j 2) (X j 3)):Int)))])
  (c:=az II 10 3008) (ir:=false) 12 (λj=>j<=min n 40) (λj=>OV n X (cj X j)) (λ_=>T7 n X (cj X (min n 40)).e (cj X (min n 40)).i (cj X (min n 40)).m (cj X (min n 40)).F)
  (λj=>min n 40-j) (λj=>j+1) 0 A (Nat.zero_le _) ?_
 ·exact key
 intro j t;by_cases f:j=min n 40
 ·have b:f_ j (min n 40)=true:=by rw[<-f];exact qy j
  simp only[b,cond_true];have:=MQ n X j _ _ (((j+1:Nat):Int)) (fp X (j+1)).length (bm (fp X (j+1))) ((j+1<=min n 40)/\min n 40-(j+1)<min n 40-j/\True) f A A;rw[<-f];rw[<-f]at this;exact this
 ·have b:f_ j (min n 40)=false:=by
   cases b:f_ j (min n 40)with
   |false=>rfl
   |true=>simp_all
  simp only[b,cond_false];have a:j<n/\j<40:=O;have h:(j+1<=min n 40)/\min n 40-(j+1)<min n 40-j/\True:=Y;generalize (cj X (min n 40)).e=k;have g:(cj X (min n 40)).i=((min n 40:Nat):Int):=rfl;by_cases o:j=0
  ·subst o;exact Ir n X 0 0 (bm []) k _ _ _ _ _ A (hx 0 a.1) A a.1 h
  ·have d:f_ j 0=false:=by
    cases b:f_ j 0 with
    |false=>rfl
    |true=>simp_all
   have p:cj X j=⟨(j:Int),false,(fp X j).length,bm (fp X j)⟩:=by unfold cj;rw[d]
   have q:cj X (j+1)=⟨(j:Int)+1,false,(oh (fp X j) (lD (X j 0) (X j 1) (X j 2) (X j 3))).length,bm (oh (fp X j) (lD (X j 0) (X j 1) (X j 2) (X j 3)))⟩:=rfl;rw[g];generalize (cj X (min n 40)).m=r;generalize (cj X (min n 40)).F=s;have l:=vD X j;have:=MP n X (j:Int) j A (fp X j) k ((min n 40:Nat):Int) r s _ (lD (X j 0) (X j 1) (X j 2) (X j 3)) A (hx j a.1) a.1 a.2 O (QO X O) h;rw[<-p,<-q]at this;rw[d,cond_false];exact this
def MS(n)(X)(hx:∀j,j<n->xOk X j):af PP II 10 [xAV n X] (n_ 12) (.ret (cZ (fp X (min n 40)).length (bm (fp X (min n 40)))) (n_ 12)):=by
 have a:=MR n X hx;by_cases b:min n 40=0
 ·have c:af PP II 10 [xAV n X] (n_ 12) (.ret .aD (n_ 12)):=by
   refine bQ (ks:=[]) (T:=[(3008,12,OV n X ⟨0,true,0,bm []⟩,T7 n X true 0 0 (bm []))]) (λ_=>trivial) ?_;rw[BO];rw[b]at a;exact⟨a,aan A ⟨qY _ _,rfl⟩⟩
  rw[b];exact c.le (mM.of [] (ie.of A A A A A (fI.2 λ_ _=>trivial)) A)
 ·have e:cj X (min n 40)=⟨((min n 40:Nat):Int),false,(fp X (min n 40)).length,bm (fp X (min n 40))⟩:=by
   unfold cj;have:f_ (min n 40) 0=false:=by
    cases f:f_ (min n 40) 0 with
    |false=>rfl
    |true=>simp_all
   rw[this]
  rw[e]at a;generalize ((min n 40:Nat):Int)=d at a;generalize fp X (min n 40)=L at*;refine bQ (ks:=[]) (T:=[(3008,12,OV n X ⟨0,true,0,bm L⟩,T7 n X false d L.length (bm L))]) (λσ=>⟨rfl,rfl,λi hi=>dM σ _⟩) ?_;rw[BO];exact⟨a,aan A ⟨qY _ _,ZE _ _ zA A⟩⟩
def bxF(m:Nat):aae:=.cells [.fn 227 [.ae (au m) 1 (aI m)] []] (.ty 307)
def bxN(v:Nat):aae:=.cells [.ae (au v) 1 (aI v)] (.ty 265)
def qW(V:Nat->Int)(j:Int)(x:Nat):Int:=match e_ x (j+1).toNat with|true=>0|false=>V x
def t187(k m a:Nat)(c:AV)(W:Nat->Int)(b:LoopState)(n:Nat)(l:List (Nat×aae)):AH:={n:=n,t:=w_ ([(12,bxN m),(13,.cells [.slice 15 0 0 k (some k) 1] (.ty 265)),(14,.cells [c] (.ty 265)),(15,.rows k 1 (ah W) (.ty 3)),(16,.cells [.ae k 1 (aI a)] (.ty 265)),(17,.tL),(18,.loop b none (w_ [(3,.ptr 12 0 0 0),(4,.ptr 13 0 0 0),(5,.ptr 14 0 0 0)]) 41 [15,16] (aP II 187) (aQ II 187) 17)]++l)}
def QP(T4 n:Nat)(k m a R:Nat)(W:Nat->Int)(i:Int×Int):St:={t:=w_ [(1,.fn 228 [] [.ptr T4 0 0 0,.ptr 14 0 0 0]),(5,.int l_ i.1),(6,.int l_ i.2)],nt:=26,H:=t187 k m a (.ae (au R) 1 (aI R)) W .busy n [(T4,bxF m)],df:=[]}
def QQ(T4 n:Nat)(k m a R:Nat)(W:Nat->Int)(q:Int):GE:=.one (.x 0 {t:=w_ [(5,.int l_ q)],nt:=26,H:=t187 k m a (.ae (au R) 1 (aI R)) W .busy n [(T4,bxF m)],df:=[]})
def QR(k m a R)(W)(q i j)(b)(Q):(kr [Kq,XT] [] 229 2003 27 (QP 20 27 k m a R W) (λ_=>QQ 20 27 k m a R W q) b Q (i,j))=(ak (a_ (i<j)) (B (aJ l_ (i+j)) (B (aJ l_ (c_ (b_ (i+j) 18446744073709551616) 2)) (B (aJ l_ (c_ (b_ (i+j) 18446744073709551616) 2+1)) (B (dy (au m) (aI m)&&a_ (0<=c_ (b_ (i+j) 18446744073709551616) 2+1)&&a_ (c_ (b_ (i+j) 18446744073709551616) 2+1<10000)&&m_ (au m) 90000) (B (a_ (au R=au R)&&true&&o_ (List.range.loop (au R) []) λi=>a_ (aU R i=aU R i)&&true) (B (dy (au (numOf (au m) (aI m)*z (c_ (b_ (i+j) 18446744073709551616) 2+1))) (aI (numOf (au m) (aI m)*z (c_ (b_ (i+j) 18446744073709551616) 2+1)))&&dy (au R) (aI R)&&f_ (au (numOf (au m) (aI m)*z (c_ (b_ (i+j) 18446744073709551616) 2+1))) (au (numOf (au (numOf (au m) (aI m)*z (c_ (b_ (i+j) 18446744073709551616) 2+1))) (aI (numOf (au m) (aI m)*z (c_ (b_ (i+j) 18446744073709551616) 2+1)))))&&f_ (au R) (au (numOf (au R) (aI R)))&&m_ (au (numOf (au m) (aI m)*z (c_ (b_ (i+j) 18446744073709551616) 2+1))) 1000000) (ak (!decide (eT (numOf (au (numOf (au m) (aI m)*z (c_ (b_ (i+j) 18446744073709551616) 2+1))) (aI (numOf (au m) (aI m)*z (c_ (b_ (i+j) 18446744073709551616) 2+1)))) (numOf (au R) (aI R))>0)) (B (aJ l_ (c_ (b_ (i+j) 18446744073709551616) 2+1)) (zyN (au m) (zyR (au m) (aI m) (aH (aP II 187) (aP II 187)/\aH (aQ II 187) (aQ II 187)/\zyN k (zyR k (aI a) (zyN k (zyR k (ah W) (zyN (au R) (zyR (au R) (aI R) (zyN k (zyN k (zyN (au m) (zyR (au m) (aI m) (aS (c_ (b_ (i+j) 18446744073709551616) 2+1) (z_ (b (i,j))) (aS j (s_ (b (i,j))) Q))))))))))))))) (zyN (au m) (zyR (au m) (aI m) (aH (aP II 187) (aP II 187)/\aH (aQ II 187) (aQ II 187)/\zyN k (zyR k (aI a) (zyN k (zyR k (ah W) (zyN (au R) (zyR (au R) (aI R) (zyN k (zyN k (zyN (au m) (zyR (au m) (aI m) (aS i (z_ (b (i,j))) (aS (c_ (b_ (i+j) 18446744073709551616) 2) (s_ (b (i,j))) Q))))))))))))))))))))) (zyN (au m) (zyR (au m) (aI m) (aH (aP II 187) (aP II 187)/\aH (aQ II 187) (aQ II 187)/\zyN k (zyR k (aI a) (zyN k (zyR k (ah W) (zyN (au R) (zyR (au R) (aI R) (zyN k (zyN k (zyN (au m) (zyR (au m) (aI m) (aS i q True)))))))))))))):=U
def QS(k m a R)(W)(q i j)(b)(Q):(kr [Kq,XT] [] 229 2003 28 (QP 21 28 k m a R W) (λ_=>QQ 21 28 k m a R W q) b Q (i,j))=(ak (a_ (i<j)) (B (aJ l_ (i+j)) (B (aJ l_ (c_ (b_ (i+j) 18446744073709551616) 2)) (B (aJ l_ (c_ (b_ (i+j) 18446744073709551616) 2+1)) (B (dy (au m) (aI m)&&a_ (0<=c_ (b_ (i+j) 18446744073709551616) 2+1)&&a_ (c_ (b_ (i+j) 18446744073709551616) 2+1<10000)&&m_ (au m) 90000) (B (a_ (au R=au R)&&true&&o_ (List.range.loop (au R) []) λi=>a_ (aU R i=aU R i)&&true) (B (dy (au (numOf (au m) (aI m)*z (c_ (b_ (i+j) 18446744073709551616) 2+1))) (aI (numOf (au m) (aI m)*z (c_ (b_ (i+j) 18446744073709551616) 2+1)))&&dy (au R) (aI R)&&f_ (au (numOf (au m) (aI m)*z (c_ (b_ (i+j) 18446744073709551616) 2+1))) (au (numOf (au (numOf (au m) (aI m)*z (c_ (b_ (i+j) 18446744073709551616) 2+1))) (aI (numOf (au m) (aI m)*z (c_ (b_ (i+j) 18446744073709551616) 2+1)))))&&f_ (au R) (au (numOf (au R) (aI R)))&&m_ (au (numOf (au m) (aI m)*z (c_ (b_ (i+j) 18446744073709551616) 2+1))) 1000000) (ak (!decide (eT (numOf (au (numOf (au m) (aI m)*z (c_ (b_ (i+j) 18446744073709551616) 2+1))) (aI (numOf (au m) (aI m)*z (c_ (b_ (i+j) 18446744073709551616) 2+1)))) (numOf (au R) (aI R))>0)) (B (aJ l_ (c_ (b_ (i+j) 18446744073709551616) 2+1)) (zyN (au m) (zyR (au m) (aI m) (aH (aP II 187) (aP II 187)/\aH (aQ II 187) (aQ II 187)/\zyN k (zyR k (aI a) (zyN k (zyR k (ah W) (zyN (au R) (zyR (au R) (aI R) (zyN k (zyN k (zyN (au m) (zyR (au m) (aI m) (aS (c_ (b_ (i+j) 18446744073709551616) 2+1) (z_ (b (i,j))) (aS j (s_ (b (i,j))) Q))))))))))))))) (zyN (au m) (zyR (au m) (aI m) (aH (aP II 187) (aP II 187)/\aH (aQ II 187) (aQ II 187)/\zyN k (zyR k (aI a) (zyN k (zyR k (ah W) (zyN (au R) (zyR (au R) (aI R) (zyN k (zyN k (zyN (au m) (zyR (au m) (aI m) (aS i (z_ (b (i,j))) (aS (c_ (b_ (i+j) 18446744073709551616) 2) (s_ (b (i,j))) Q))))))))))))))))))))) (zyN (au m) (zyR (au m) (aI m) (aH (aP II 187) (aP II 187)/\aH (aQ II 187) (aQ II 187)/\zyN k (zyR k (aI a) (zyN k (zyR k (ah W) (zyN (au R) (zyR (au R) (aI R) (zyN k (zyN k (zyN (au m) (zyR (au m) (aI m) (aS i q True)))))))))))))):=U
def Is(k m a:Nat)(V:Nat->Int)(F:Int->Nat)(i:Bool×Int):St:={t:=w_ [(0,.yield 18),(1,.ptr 16 0 0 0),(3,.int l_ i.2)],nt:=19,H:=t187 k m a (match i.1 with|false=> .aD|true=> .ae (au (F i.2)) 1 (aI (F i.2))) (qW V i.2) .ready 19 [],df:=[]}
def It(k m a:Nat)(V:Nat->Int)(F:Int->Nat):GE:=.cond (f_ k 0) (.one (.x 0 {t:=.e,nt:=19,H:=t187 k m a .aD (qW V (-1)) .ready 19 [],df:=[]})) (.one (.x 0 {t:=.e,nt:=19,H:=t187 k m a (.ae (au (F (-1))) 1 (aI (F (-1)))) (qW V (-1)) .ready 19 [],df:=[]}))
def Yq(k m a R:Nat)(W:Nat->Int)(q:Int):l6:=[(2003,27,QP 20 27 k m a R W (0,9999),QQ 20 27 k m a R W q),(2003,28,QP 21 28 k m a R W (0,9999),QQ 21 28 k m a R W q)]
def yZ(k m a R)(V)(F)(q j)(Q){b}(g:b=(numOf (au m) (aI m)*z (bif a_ (0+j.toNat=0+j.toNat)then q else qW V j (0+j.toNat)))){c}(h:c=(numOf 1 λi=>h_ 1 (i_ (0+i*1) [k_ l_ (aU a j.toNat)]))){d}(l:d=(numOf (au R) (aI R)-numOf (au b) (aI b))){e}(n:e=(a_ (0<=j)&&a_ (j<M k))){f}(o:f=(zyN k (zyN (au m) (zyR (au m) (aI m) True)))):(kr [wv,Ib,XT] (Yq k m a R (qW V j) q) 247 1002 19 (Is k m a V F) (λ_=>It k m a V F) (λi=>(true,i.2-1)) Q (false,j))=(ak (a_ (j>=0)) (B e (B ((dy 1 λi=>h_ 1 (i_ (0+i*1) [k_ l_ (aU a j.toNat)]))&&true) (ay PP II false (az II 229 2003) 27 (QP 20 27 k m a R (qW V j) (0,9999)) (QQ 20 27 k m a R (qW V j) q)/\zyN (au m) (zyR (au m) (aI m) (aH (aP II 187) (aP II 187)/\aH (aQ II 187) (aQ II 187)/\zyN k (zyR k (aI a) (zyN k (zyR k (ah (qW V j)) (bh (au c) (au R) (an (au c) (aI c) (aI R)/\zyN k (zyN k (zyN (au m) (zyR (au m) (aI m) (B (a_ (k=k)&&a_ (some k=Option.some k)&&true) (B e (B (a_ (0+j.toNat<k)) (B e (B (a_ (0+j.toNat<k)) (B (dy (au m) (aI m)&&a_ (0<=bif a_ (0+j.toNat=0+j.toNat)then q else qW V j (0+j.toNat))&&a_ ((bif a_ (0+j.toNat=0+j.toNat)then q else qW V j (0+j.toNat))<10000)&&m_ (au m) 90000) (B (a_ (au R=au R)&&true&&o_ (p_ (au R)) λi=>a_ (aU R i=aU R i)&&true) (B (dy (au R) (aI R)&&dy (au b) (aI b)&&m_ (numOf (au b) (aI b)) (numOf (au R) (aI R))&&m_ (au R) 90000) (B (aJ l_ (j-1)) (aH (aP II 187) (aP II 187)/\aH (aQ II 187) (aQ II 187)/\zyN k (zyR k (aI a) (zyN k (an k (λi=>[k_ l_ (bif a_ (i=0+j.toNat)then q else qW V j i)]) (ah (qW V (j-1)))/\bh (au d) (au (F (j-1))) (an (au d) (aI d) (aI (F (j-1)))/\zyN k (zyN k (zyN (au m) (zyR (au m) (aI m) (zyI (j-1) Q))))))))))))))))))))))))))))))) (ak (f_ k 0) (aH (aP II 187) (aP II 187)/\aH (aQ II 187) (aQ II 187)/\zyN k (zyR k (aI a) (zyN k (an k (ah (qW V j)) (ah (qW V (-1:Int)))/\zyN k f)))) (aH (aP II 187) (aP II 187)/\aH (aQ II 187) (aQ II 187)/\zyN k (zyR k (aI a) (zyN k (an k (ah (qW V j)) (ah (qW V (-1:Int)))/\bh (au (F (-1:Int))) 0 (zyN k f))))))):=by subst_vars;kernel_rfl
def y4(k m a R)(V)(F)(q j)(Q){e}(f:e=(zyN k (zyN (au m) (zyR (au m) (aI m) (B (a_ (k=k)&&a_ (some k=Option.some k)&&true) (B (a_ (0<=j)&&a_ (j<M k)) (B (a_ (0+j.toNat<k)) (B (a_ (0<=j)&&a_ (j<M k)) (B (a_ (0+j.toNat<k)) (B (dy (au m) (aI m)&&a_ (0<=bif a_ (0+j.toNat=0+j.toNat)then q else qW V j (0+j.toNat))&&a_ ((bif a_ (0+j.toNat=0+j.toNat)then q else qW V j (0+j.toNat))<10000)&&m_ (au m) 90000) (B (a_ (au R=au R)&&true&&o_ (p_ (au R)) λi=>a_ (aU R i=aU R i)&&true) (B (dy (au R) (aI R)&&dy (au (numOf (au m) (aI m)*z (bif a_ (0+j.toNat=0+j.toNat)then q else qW V j (0+j.toNat)))) (aI (numOf (au m) (aI m)*z (bif a_ (0+j.toNat=0+j.toNat)then q else qW V j (0+j.toNat))))&&m_ (numOf (au (numOf (au m) (aI m)*z (bif a_ (0+j.toNat=0+j.toNat)then q else qW V j (0+j.toNat)))) (aI (numOf (au m) (aI m)*z (bif a_ (0+j.toNat=0+j.toNat)then q else qW V j (0+j.toNat))))) (numOf (au R) (aI R))&&m_ (au R) 90000) (B (aJ l_ (j-1)) (aH (aP II 187) (aP II 187)/\aH (aQ II 187) (aQ II 187)/\zyN k (zyR k (aI a) (zyN k (an k (λi=>[k_ l_ (bif a_ (i=0+j.toNat)then q else qW V j i)]) (ah (qW V (j-1)))/\bh (au (numOf (au R) (aI R)-numOf (au (numOf (au m) (aI m)*z (bif a_ (0+j.toNat=0+j.toNat)then q else qW V j (0+j.toNat)))) (aI (numOf (au m) (aI m)*z (bif a_ (0+j.toNat=0+j.toNat)then q else qW V j (0+j.toNat)))))) (au (F (j-1))) (an (au (numOf (au R) (aI R)-numOf (au (numOf (au m) (aI m)*z (bif a_ (0+j.toNat=0+j.toNat)then q else qW V j (0+j.toNat)))) (aI (numOf (au m) (aI m)*z (bif a_ (0+j.toNat=0+j.toNat)then q else qW V j (0+j.toNat)))))) (aI (numOf (au R) (aI R)-numOf (au (numOf (au m) (aI m)*z (bif a_ (0+j.toNat=0+j.toNat)then q else qW V j (0+j.toNat)))) (aI (numOf (au m) (aI m)*z (bif a_ (0+j.toNat=0+j.toNat)then q else qW V j (0+j.toNat)))))) (aI (F (j-1)))/\zyN k (zyN k (zyN (au m) (zyR (au m) (aI m) (zyI (j-1) Q)))))))))))))))))))))){b}(g:b=[k_ l_ (aU a j.toNat)]){c}(h:c=(numOf (1+au (F j)) λi=>bif e_ i 1 then h_ 1 (i_ (0+i*1) b)else aI (F j) (i-1))){d}(l:d=(numOf 1 λi=>h_ 1 (i_ (0+i*1) b))):(kr [wv,Ib,XT] (Yq k m a R (qW V j) q) 247 1002 19 (Is k m a V F) (λ_=>It k m a V F) (λi=>(true,i.2-1)) Q (true,j))=(ak (a_ (j>=0)) (B (a_ (0<=j)&&a_ (j<M k)) (B (a_ ((1+au (F j))*8<=140737488355328)&&true) (ak (a_ (au (F j)=0)) (B ((dy 1 λi=>h_ 1 (i_ (0+i*1) b))&&true) (ay PP II false (az II 229 2003) 27 (QP 20 27 k m a R (qW V j) (0,9999)) (QQ 20 27 k m a R (qW V j) q)/\zyN (au m) (zyR (au m) (aI m) (aH (aP II 187) (aP II 187)/\aH (aQ II 187) (aQ II 187)/\zyN k (zyR k (aI a) (zyN k (zyR k (ah (qW V j)) (bh (au d) (au R) (an (au d) (aI d) (aI R)/\zyN k e))))))))) (B ((o_ (p_ (1+au (F j))) λi=>bj.free (bif e_ i 1 then h_ 1 (i_ (0+i*1) b)else aI (F j) (i-1)))&&a_ (1+au (F j)<=1+au (F j))) (B ((dy (1+au (F j)) λi=>bif e_ i 1 then h_ 1 (i_ (0+i*1) b)else aI (F j) (i-1))&&m_ (1+au (F j)) 1000000) (ay PP II false (az II 229 2003) 28 (QP 21 28 k m a R (qW V j) (0,9999)) (QQ 21 28 k m a R (qW V j) q)/\zyN (au m) (zyR (au m) (aI m) (aH (aP II 187) (aP II 187)/\aH (aQ II 187) (aQ II 187)/\zyN k (zyR k (aI a) (zyN k (zyR k (ah (qW V j)) (bh (au c) (au R) (an (au c) (aI c) (aI R)/\zyN k e))))))))))))) (ak (f_ k 0) (aH (aP II 187) (aP II 187)/\aH (aQ II 187) (aQ II 187)/\zyN k (zyR k (aI a) (zyN k (an k (ah (qW V j)) (ah (qW V (-1:Int)))/\False)))) (aH (aP II 187) (aP II 187)/\aH (aQ II 187) (aQ II 187)/\zyN k (zyR k (aI a) (zyN k (an k (ah (qW V j)) (ah (qW V (-1:Int)))/\bh (au (F j)) (au (F (-1:Int))) (an (au (F j)) (aI (F j)) (aI (F (-1:Int)))/\zyN k (zyN k (zyN (au m) (zyR (au m) (aI m) True)))))))))):=by subst_vars;kernel_rfl
def Vb(k m a)(V)(F)(Q){c}(f:c=(a_ (au (F (-1:Int))=au (F (-1:Int)))&&true&&o_ (p_ (au (F (-1:Int)))) λi=>a_ (aU (F (-1:Int)) i=aU (F (-1:Int)) i)&&true)){b}(g:b=(numOf k λi=>ah (qW V (-1:Int)) (0+i))){d}(h:d=((o_ (p_ k) λi=>bj.free (ah (qW V (-1:Int)) i))&&a_ (0+k<=k))){e}(j:e=((dy k λi=>ah (qW V (-1:Int)) (0+i))&&m_ k 1000000)):(kb [wv] [(1002,19,Is k m a V F (false,M k-1),It k m a V F)] 187 [.ae k 1 (aI a),.ae (au m) 1 (aI m)] Q)=(B (a_ (0<=M k)&&a_ (M k<=M k)&&Ei (8*M k) 281474976710656&&m_ k 9223372036854775807) (B (aJ l_ (M k-1)) (ay PP II false (az II 247 1002) 19 (Is k m a V F (false,M k-1)) (It k m a V F)/\aH (aP II 187) (aP II 187)/\aH (aQ II 187) (aQ II 187)/\zyN k (zyR k (aI a) (bh (z (M k)) k (an (z (M k)) (λx=>[k_ l_ 0]) (ah (qW V (M k-1)))/\bh (z (M k)) k (bh (z (M k)) k (zyN (au m) (zyR (au m) (aI m) (zyI (M k-1) (ak (f_ k 0) (B d (B e (Q (AV.bM [L_ (au b) 1 (aI b),AV.aD])))) (B d (B e (B c (B c (Q (AV.bM [L_ (au b) 1 (aI b),L_ (au (F (-1:Int))) 1 (aI (F (-1:Int)))]))))))))))))))))):=by subst_vars;kernel_rfl
def ur{a b}:eT a b>0↔b<a:=by
 unfold eT;omega
def MT(m R:Nat)(p:Int×Int):Int×Int:=match a_ (m*z ((p.1+p.2)/2+1)<=R)with
 |true=>((p.1+p.2)/2+1,p.2)
 |false=>(p.1,(p.1+p.2)/2)
def oP(v k):(a_ (au v=au v)&&true&&o_ (List.range.loop k []) λi=>a_ (aU v i=aU v i)&&true)=true:=zA
def Fk{k m a R W}(e:0<m)(g:R<10000*m)(l:au m<=80000):ay PP II false (az II 229 2003) 27 (QP 20 27 k m a R W (0,9999)) (QQ 20 27 k m a R W (M (R/m))):=
 ay.of (ι:=Int×Int) fU [Kq,XT] (aX PP II []) 1000 27 (λp=>0<=p.1/\p.1<=M (R/m)/\M (R/m)<=p.2/\p.2<=9999) (QP 20 27 k m a R W) (λ_=>QQ 20 27 k m a R W (M (R/m))) (λp=>(p.2-p.1).toNat) (MT m R) (0,9999) A
  ⟨u_ _,d_ _,by
   have:R/m<10000:=by rw[A_ e];exact g
   grind,u_ _⟩ λp o=>by
  obtain⟨i,j⟩:=p;obtain⟨q,r,h3,h4⟩:=o;change 0<=i at q;change i<=((R/m:Nat):Int)at r;change ((R/m:Nat):Int)<=j at h3;change j<=9999 at h4;refine(QR k m a R W _ i j (MT m R) _).mpr ?_;have s:c_ (b_ (i+j) 18446744073709551616) 2=(i+j)/2:=by rw[show b_ (i+j) 18446744073709551616=i+j from F_ O O,x_ _ O]
  rw[s,cb m,cb (m*z ((i+j)/2+1)),cb R];refine aaz (λh=>?_) λh=>?_
  ·simp only[bl]at h;obtain⟨b,w⟩:∃n:Nat,(i+j)/2=(n:Int):=⟨((i+j)/2).toNat,O⟩;have t:(n:Nat)->n<10000->au (m*n)<=au m+1:=λn u=>fw _ _ (Dd u (dP _))
   have ht:z ((i+j)/2+1)=b+1:=O;have hx:MT m R (i,j)=(match a_ (m*(b+1)<=R)with|true=>((i+j)/2+1,j)|false=>(i,(i+j)/2)):=by show(match a_ (m*z ((i+j)/2+1)<=R)with|true=>((i+j)/2+1,j)|false=>(i,(i+j)/2))=_;rw[ht]
   rw[ht];have f:=t (b+1) O;have key:m*(b+1)<=R↔b<R/m:=by rw[J_,<-B_ e];rfl
   refine ZF (ai O O) (ZF (ai O O) (ZF (ai O O) (ZF ?_ (ZF (oP _ _) (ZF ?_ (aaz (λc=>ZF (ai O O) ?_) λc=>?_))))))
   ·rw[cO];simp only[j_,ba,bl,D_];omega
   ·rw[cO,cO];rw[ba,ba];exact⟨by simp_all,il O⟩
   ·simp only[E_,je,ur]at c;have d:a_ (m*(b+1)<=R)=true:=Y;have v:b<R/m:=key.1 O;rw[d]at hx;refine aan A ⟨aaX λ_ _=>cw _ _ _,rfl,rfl,aan A ⟨aaX λ_ _=>cw _ _ _,aan A ⟨dU _ _,aan A ⟨aaX λ_ _=>cw _ _ _,aan A (aan A (aan A ⟨aaX λ_ _=>cw _ _ _,aag Y (aag (congrArg s_ hx).symm ⟨?_,?_,rfl⟩)⟩))⟩⟩⟩⟩
    all_goals grind
   ·simp only[C_,bl,ur]at c;have d:a_ (m*(b+1)<=R)=false:=Y;have v :¬ b<R/m:=O;rw[d]at hx;refine aan A ⟨aaX λ_ _=>cw _ _ _,rfl,rfl,aan A ⟨aaX λ_ _=>cw _ _ _,aan A ⟨dU _ _,aan A ⟨aaX λ_ _=>cw _ _ _,aan A (aan A (aan A ⟨aaX λ_ _=>cw _ _ _,aag Y (aag (congrArg s_ hx).symm ⟨?_,?_,rfl⟩)⟩))⟩⟩⟩⟩
    all_goals grind
  ·simp only[je]at h;refine aan A ⟨aaX λ_ _=>cw _ _ _,rfl,rfl,aan A ⟨aaX λ_ _=>cw _ _ _,aan A ⟨dU _ _,aan A ⟨aaX λ_ _=>cw _ _ _,aan A (aan A (aan A ⟨aaX λ_ _=>cw _ _ _,aag ?_ trivial⟩))⟩⟩⟩⟩
   grind
def QT{k m a R W}(e:0<m)(g:R<10000*m)(l:au m<=80000):ay PP II false (az II 229 2003) 28 (QP 21 28 k m a R W (0,9999)) (QQ 21 28 k m a R W (M (R/m))):=
 ay.of (ι:=Int×Int) fU [Kq,XT] (aX PP II []) 1000 28 (λp=>0<=p.1/\p.1<=M (R/m)/\M (R/m)<=p.2/\p.2<=9999) (QP 21 28 k m a R W) (λ_=>QQ 21 28 k m a R W (M (R/m))) (λp=>(p.2-p.1).toNat) (MT m R) (0,9999) A
  ⟨u_ _,d_ _,by
   have:R/m<10000:=by rw[A_ e];exact g
   grind,u_ _⟩ λp o=>by
  obtain⟨i,j⟩:=p;obtain⟨q,r,h3,h4⟩:=o;change 0<=i at q;change i<=((R/m:Nat):Int)at r;change ((R/m:Nat):Int)<=j at h3;change j<=9999 at h4;refine(QS k m a R W _ i j (MT m R) _).mpr ?_;have s:c_ (b_ (i+j) 18446744073709551616) 2=(i+j)/2:=by rw[show b_ (i+j) 18446744073709551616=i+j from F_ O O,x_ _ O]
  rw[s,cb m,cb (m*z ((i+j)/2+1)),cb R];refine aaz (λh=>?_) λh=>?_
  ·simp only[bl]at h;obtain⟨b,w⟩:∃n:Nat,(i+j)/2=(n:Int):=⟨((i+j)/2).toNat,O⟩;have t:(n:Nat)->n<10000->au (m*n)<=au m+1:=λn u=>fw _ _ (Dd u (dP _))
   have ht:z ((i+j)/2+1)=b+1:=O;have hx:MT m R (i,j)=(match a_ (m*(b+1)<=R)with|true=>((i+j)/2+1,j)|false=>(i,(i+j)/2)):=by show(match a_ (m*z ((i+j)/2+1)<=R)with|true=>((i+j)/2+1,j)|false=>(i,(i+j)/2))=_;rw[ht]
   rw[ht];have f:=t (b+1) O;have key:m*(b+1)<=R↔b<R/m:=by rw[J_,<-B_ e];rfl
   refine ZF (ai O O) (ZF (ai O O) (ZF (ai O O) (ZF ?_ (ZF (oP _ _) (ZF ?_ (aaz (λc=>ZF (ai O O) ?_) λc=>?_))))))
   ·rw[cO];simp only[j_,ba,bl,D_];omega
   ·rw[cO,cO];rw[ba,ba];exact⟨by simp_all,il O⟩
   ·simp only[E_,je,ur]at c;have d:a_ (m*(b+1)<=R)=true:=Y;have v:b<R/m:=key.1 O;rw[d]at hx;refine aan A ⟨aaX λ_ _=>cw _ _ _,rfl,rfl,aan A ⟨aaX λ_ _=>cw _ _ _,aan A ⟨dU _ _,aan A ⟨aaX λ_ _=>cw _ _ _,aan A (aan A (aan A ⟨aaX λ_ _=>cw _ _ _,aag Y (aag (congrArg s_ hx).symm ⟨?_,?_,rfl⟩)⟩))⟩⟩⟩⟩
    all_goals grind
   ·simp only[C_,bl,ur]at c;have d:a_ (m*(b+1)<=R)=false:=Y;have v :¬ b<R/m:=O;rw[d]at hx;refine aan A ⟨aaX λ_ _=>cw _ _ _,rfl,rfl,aan A ⟨aaX λ_ _=>cw _ _ _,aan A ⟨dU _ _,aan A ⟨aaX λ_ _=>cw _ _ _,aan A (aan A (aan A ⟨aaX λ_ _=>cw _ _ _,aag Y (aag (congrArg s_ hx).symm ⟨?_,?_,rfl⟩)⟩))⟩⟩⟩⟩
    all_goals grind
  ·simp only[je]at h;refine aan A ⟨aaX λ_ _=>cw _ _ _,rfl,rfl,aan A ⟨aaX λ_ _=>cw _ _ _,aan A ⟨dU _ _,aan A ⟨aaX λ_ _=>cw _ _ _,aan A (aan A (aan A ⟨aaX λ_ _=>cw _ _ _,aag ?_ trivial⟩))⟩⟩⟩⟩
   grind
def dG(v n):an n (aI v) (aI v):=aaX λ_ _=>cw _ _ _
def vG{k f g}(h:∀i,i<k->f i=g i):dy k f=dy k g/\numOf k f=numOf k g:=by
 have e:fy k f=fy k g:=by
  unfold fy;refine List.map_congr_left λi hi=>?_
  unfold a8;rw[h i (List.mem_range.1 hi)]
 refine⟨?_,by unfold numOf;rw[e]⟩;unfold dy
 grind
def Fl{x f}(hx:x<10000):aI (x+10000*f) 0=[.int l_ (M x)]:=by
 show [k_ _ (M (bH (x+10000*f) 0))]=_;rw[BB,Nat.add_mul_mod_self_left,Nat.mod_eq_of_lt hx]
def QU{x f i}(hx:x<10000):aI (x+10000*f) (i+1)=aI f i:=by
 show [k_ _ (M (bH (x+10000*f) (i+1)))]=[k_ _ (M (bH f i))];rw[BC,Nat.add_mul_div_left _ _ O,G_ hx,t_]
def xy(a n):dy 1 (λi=>h_ 1 (i_ (0+i*1) [k_ l_ (aU a (z (M n)))]))=true/\numOf 1 (λi=>h_ 1 (i_ (0+i*1) [k_ l_ (aU a (z (M n)))]))=bH a n:=by
 have hl:=l7 a n;have h:=vG (k:=1) (f:=λi=>h_ 1 (i_ (0+i*1) [k_ l_ (aU a (z (M n)))])) (g:=aI (bH a n+10000*0)) λi hi=>by have:i=0:=O;subst this;rw[Fl hl];rfl
 rw[h.1,h.2];refine⟨cO _ _,mw (fw _ _ ?_)⟩;omega
def Fm(a n f):dy (1+au f) (λi=>bif e_ i 1 then h_ 1 (i_ (0+i*1) [k_ l_ (aU a (z (M n)))])else aI f (i-1))=true/\numOf (1+au f) (λi=>bif e_ i 1 then h_ 1 (i_ (0+i*1) [k_ l_ (aU a (z (M n)))])else aI f (i-1))=bH a n+10000*f:=by
 have hl:=l7 a n;have h:=vG (k:=1+au f) (f:=λi=>bif e_ i 1 then h_ 1 (i_ (0+i*1) [k_ l_ (aU a (z (M n)))])else aI f (i-1)) (g:=aI (bH a n+10000*f)) λi hi=>by
  cases i with
  |zero=>rw[Fl hl];rfl
  |succ i=>rw[QU hl];rfl
 rw[h.1,h.2];refine⟨cO _ _,mw (fw _ _ ?_)⟩;have:=iX f
 grind
def MU(a n f):(o_ (p_ (1+au f)) (λi=>bj.free (bif e_ i 1 then h_ 1 (i_ (0+i*1) [k_ l_ (aU a (z (M n)))])else aI f (i-1)))&&a_ (1+au f<=1+au f))=true:=by
 rw[ba];refine⟨List.all_eq_true.2 λi _=>?_,zA⟩;cases i with
 |zero=>rfl
 |succ i=>rfl
def vH(a m:Nat)(j:Int):Nat:=yH a m (j+1).toNat
def sW(a m:Nat)(j:Int):Nat:=bH a j.toNat+10000*vH a m j
def Vc{a m}(b:0<m)(n):sW a m (M n)/m=bH (a/m) n/\sW a m (M n)-m*(sW a m (M n)/m)=vH a m (M n-1)/\sW a m (M n)<10000*m:=by
 have c:(M n+1).toNat=n+1:=by show((n:Int)+1).toNat=_;omega
 have d:(M n-1+1).toNat=n:=by show((n:Int)-1+1).toNat=_;omega
 have e:sW a m (M n)=bH a n+10000*yH a m (n+1):=by unfold sW vH;rw[c];rfl
 obtain⟨f,g,h3⟩:=Me (a:=a) b n;rw[e];refine⟨f,?_,h3⟩;unfold vH;rw[d,<-g];have:=Nat.div_add_mod (bH a n+10000*yH a m (n+1)) m;omega
def vI{k n V q}(a:q=V n):an k (λi=>[k_ l_ (bif a_ (i=0+z (M n))then q else qW V (M n) i)]) (ah (qW V (M n-1))):=λi _ σ=>by
 have e:(bif a_ (i=0+z (M n))then q else qW V (M n) i)=qW V (M n-1) i:=by
  have b:(M n+1).toNat=n+1:=by show((n:Int)+1).toNat=_;omega
  have c:(M n-1+1).toNat=n:=by show((n:Int)-1+1).toNat=_;omega
  unfold qW;rw[b,c,a,t_];show(bif a_ (i=n)then V n else _)=_;by_cases h:i=n
  ·subst h;have:e_ i i=false:=by rw[Bool.eq_false_iff];intro e;rw[q_]at e;omega
   grind
  ·rw[nJ h,cond_false];have:e_ i (n+1)=e_ i n:=by
    rw[Bool.eq_iff_iff,q_,q_];omega
   rw[this]
 show bj.le σ [k_ l_ (bif a_ (i=0+z (M n))then q else qW V (M n) i)] (ah (qW V (M n-1)) i);rw[e];exact gw _ _ _
set_option maxHeartbeats 2000000 in
def MV{k m a:Nat}(s:0<m)(ha:au a<=k)(K:k<=80000)(f:au m<=80000):ay PP II false (az II 247 1002) 19 (Is k m a (aU (a/m)) (vH a m) (false,M k-1)) (It k m a (aU (a/m)) (vH a m)):=
 ay.ofT (ι:=Bool×Int) fU [wv,Ib,XT] 1000 (λp=>Yq k m a (sW a m p.2) (qW (aU (a/m)) p.2) (M (sW a m p.2/m))) 19 (λp=> -1<=p.2/\p.2<M k/\(p.1=false->p.2=M k-1)/\(p.1=true->0<k)) (Is k m a (aU (a/m)) (vH a m)) (λ_=>It k m a (aU (a/m)) (vH a m)) (λp=>(p.2+1).toNat) (λp=>(true,p.2-1)) (false,M k-1) A
  ⟨by show -1<=(k:Int)-1;omega,by show(k:Int)-1<(k:Int);omega,λ_=>rfl,λh=>zE⟩ λp E=>by
  obtain⟨b,j⟩:=p;obtain⟨F,d,h3,h4⟩:=E;change -1<=j at F;change j<M k at d;by_cases q:0<=j
  ·obtain⟨n,rfl⟩:∃n:Nat,j=M n:=⟨j.toNat,(Int.toNat_of_nonneg q).symm⟩;obtain⟨g,c,o⟩:=Vc (a:=a) s n;have y:M (sW a m (M n)/m)=aU (a/m) n:=by rw[g];rfl
   have t:=l7 (a/m) n;have G:sW a m (M n)/m<10000:=by rw[g];exact t
   have H:au (sW a m (M n))<=80001:=by refine v_ (fw (au m+1) _ ?_) O;have:=iX m;rw[Nat.pow_succ];omega
   have D:a_ (0+z (M n)=0+z (M n))=true:=bK A;have u:z (M (sW a m (M n)/m))=sW a m (M n)/m:=rfl;have v:(a_ (0<=M n)&&a_ (M n<M k))=true:=pR q d;cases b with
   |false=>
    have C:vH a m (M n)=0:=by unfold vH;rw[show(M n+1).toNat=k by have:=h3 A;change M n=(k:Int)-1 at this;omega];unfold yH;rw[G_ (dc.1 ha),K_]
    have w:bH a n=sW a m (M n):=by unfold sW;rw[C];rfl
    refine(yZ k m a (sW a m (M n)) (aU (a/m)) (vH a m) (M (sW a m (M n)/m)) (M n) _ A A A A A).mpr ?_;rw[(xy a n).1,(xy a n).2,D,cond_true,cb m,cb (sW a m (M n)),u,cb (m*(sW a m (M n)/m)),w];refine aaz (λ_=>ZF v (ZF A ⟨Fk s o f,aan A ⟨dG _ _,rfl,rfl,aan A ⟨dG _ _,aan A ⟨dU _ _,aan A ⟨dG _ _,aan A (aan A (aan A ⟨dG _ _,?_⟩))⟩⟩⟩⟩⟩)) (λh=>absurd q (of_decide_eq_false h));have e:(a_ (0<=M n)&&a_ (M n<M k))=true:=pR (d_ n) d;have i:a_ (0+z (M n)<k)=true:=bK (by show 0+n<k;have:(n:Int)<(k:Int):=d;omega);refine ZF zA (ZF e (ZF i (ZF e (ZF i (ZF ?_ (ZF (oP _ _) (ZF ?_ (ZF (ai (by show _<=(n:Int)-1;omega) (by have:(n:Int)<(k:Int):=d;show(n:Int)-1<=_;omega)) ⟨rfl,rfl,aan A ⟨dG _ _,aan A ⟨vI y,aan (by rw[c]) ⟨by rw[c];exact dG _ _,aan A (aan A (aan A ⟨dG _ _,aag A ⟨⟨by show -1<=(n:Int)-1;omega,by have:(n:Int)<(k:Int):=d;show(n:Int)-1<(k:Int);omega,(λh=>zE),λ_=>by have:(n:Int)<(k:Int):=d;omega⟩,by show((n:Int)-1+1).toNat<((n:Int)+1).toNat;omega,rfl⟩⟩))⟩⟩⟩⟩))))))))
    ·rw[cO,j_,ba];exact⟨pR (d_ _) zQ,il O⟩
    ·rw[cO,cO,j_,ba,ba];exact⟨⟨rfl,il (y_ _ _)⟩,il O⟩
   |true=>
    refine(y4 k m a (sW a m (M n)) (aU (a/m)) (vH a m) (M (sW a m (M n)/m)) (M n) _ A A A A).mpr ?_;have I:au (vH a m (M n))<=80000:=v_ (oJ (Nat.le_of_lt (Nat.mod_lt _ s))) f;rw[(xy a n).1,(xy a n).2,(Fm a n (vH a m (M n))).1,(Fm a n (vH a m (M n))).2,MU,D,cond_true,cb m,cb (sW a m (M n)),u,cb (m*(sW a m (M n)/m))];refine aaz (λ_=>ZF v (ZF (by rw[bK (O:(1+au (vH a m (M n)))*8<=140737488355328)];rfl) (aaz (λr=>?_) λ_=>?_))) (λh=>absurd q (of_decide_eq_false h))
    ·have C:vH a m (M n)=0:=by
      have r:=py r;have:=iX (vH a m (M n));rw[r]at this;simpa using this
     have w:bH a n=sW a m (M n):=by unfold sW;rw[C];rfl
     rw[w];refine ZF A ⟨Fk s o f,aan A ⟨dG _ _,rfl,rfl,aan A ⟨dG _ _,aan A ⟨dU _ _,aan A ⟨dG _ _,aan A (aan A (aan A ⟨dG _ _,?_⟩))⟩⟩⟩⟩⟩;have e:(a_ (0<=M n)&&a_ (M n<M k))=true:=pR (d_ n) d;have i:a_ (0+z (M n)<k)=true:=bK (by show 0+n<k;have:(n:Int)<(k:Int):=d;omega);refine ZF zA (ZF e (ZF i (ZF e (ZF i (ZF ?_ (ZF (oP _ _) (ZF ?_ (ZF (ai (by show _<=(n:Int)-1;omega) (by have:(n:Int)<(k:Int):=d;show(n:Int)-1<=_;omega)) ⟨rfl,rfl,aan A ⟨dG _ _,aan A ⟨vI y,aan (by rw[c]) ⟨by rw[c];exact dG _ _,aan A (aan A (aan A ⟨dG _ _,aag A ⟨⟨by show -1<=(n:Int)-1;omega,by have:(n:Int)<(k:Int):=d;show(n:Int)-1<(k:Int);omega,(λh=>zE),λ_=>by have:(n:Int)<(k:Int):=d;omega⟩,by show((n:Int)-1+1).toNat<((n:Int)+1).toNat;omega,rfl⟩⟩))⟩⟩⟩⟩))))))))
     ·rw[cO,j_,ba];exact⟨pR (d_ _) zQ,il O⟩
     ·rw[cO,cO,j_,ba,ba];exact⟨⟨rfl,il (y_ _ _)⟩,il O⟩
    ·have w:bH a n+10000*vH a m (M n)=sW a m (M n):=rfl;rw[w];refine ZF A (ZF (by rw[j_];exact il O) ⟨QT s o f,aan A ⟨dG _ _,rfl,rfl,aan A ⟨dG _ _,aan A ⟨dU _ _,aan A ⟨dG _ _,aan A (aan A (aan A ⟨dG _ _,?_⟩))⟩⟩⟩⟩⟩);have e:(a_ (0<=M n)&&a_ (M n<M k))=true:=pR (d_ n) d;have i:a_ (0+z (M n)<k)=true:=bK (by show 0+n<k;have:(n:Int)<(k:Int):=d;omega);refine ZF zA (ZF e (ZF i (ZF e (ZF i (ZF ?_ (ZF (oP _ _) (ZF ?_ (ZF (ai (by show _<=(n:Int)-1;omega) (by have:(n:Int)<(k:Int):=d;show(n:Int)-1<=_;omega)) ⟨rfl,rfl,aan A ⟨dG _ _,aan A ⟨vI y,aan (by rw[c]) ⟨by rw[c];exact dG _ _,aan A (aan A (aan A ⟨dG _ _,aag A ⟨⟨by show -1<=(n:Int)-1;omega,by have:(n:Int)<(k:Int):=d;show(n:Int)-1<(k:Int);omega,(λh=>zE),λ_=>by have:(n:Int)<(k:Int):=d;omega⟩,by show((n:Int)-1+1).toNat<((n:Int)+1).toNat;omega,rfl⟩⟩))⟩⟩⟩⟩))))))))
     ·rw[cO,j_,ba];exact⟨pR (d_ _) zQ,il O⟩
     ·rw[cO,cO,j_,ba,ba];exact⟨⟨rfl,il (y_ _ _)⟩,il O⟩
  ·have x:j= -1:=by omega
   have l:an k (ah (qW (aU (a/m)) j)) (ah (qW (aU (a/m)) (-1))):=by rw[x];exact dU _ _
   cases b with
   |false=>
    have r:f_ k 0=true:=by have:=h3 A;change j=(k:Int)-1 at this;rw[Nat.beq_eq];omega
    refine(yZ k m a (sW a m j) (aU (a/m)) (vH a m) (M (sW a m j/m)) j _ A A A A A).mpr ?_
    with_reducible refine aaz (λh=>?_) λ_=>aaz (λ_=>?_) λh=>?_
    ·exact absurd (py h) q
    ·exact⟨rfl,rfl,aan A ⟨dG _ _,aan A ⟨l,aan A (aan A (aan A ⟨dG _ _,trivial⟩))⟩⟩⟩
    ·rw[r]at h;cases h
   |true=>
    have r:=h4 A;have J:vH a m j=vH a m (-1):=by rw[x]
    refine(y4 k m a (sW a m j) (aU (a/m)) (vH a m) (M (sW a m j/m)) j _ A A A A).mpr ?_;rw[J]
    with_reducible refine aaz (λh=>?_) λ_=>aaz (λh=>?_) λ_=>?_
    ·exact absurd (py h) q
    ·have:=dV h;omega
    ·exact⟨rfl,rfl,aan A ⟨dG _ _,aan A ⟨l,aan A ⟨dG _ _,aan A (aan A (aan A ⟨dG _ _,trivial⟩))⟩⟩⟩⟩
def af.Yr{P I}(hI:I.Ok P)(ks:List (ax P I)){d}(b:gv P I id d)(fuel){f args a'}
  (h:ka ks d fuel f args (n_ I.G) (fk I.G λa=> ∀σ,H_ σ a a') (λ_ _=>False)):af P I f args (n_ I.G) (.ret a' (n_ I.G)):=by
 obtain⟨o,i,j⟩:=iJ hI ks b fuel f args (n_ I.G) _ _ h;cases o with
 |ret a H1=>
  obtain⟨x,H2,k1,k2⟩:=lz RI.dX _ _ _ _ i;cases c:m_ I.G H2.n with
  |false=>have k1:B (m_ I.G H2.n) (∀σ,H_ σ x a'):=k1;rw[c]at k1;exact k1.elim
  |true=>have k1:B (m_ I.G H2.n) (∀σ,H_ σ x a'):=k1;rw[c]at k1;have k1:∀σ,H_ σ x a':=k1;exact(j.yu k2).le (mM.of [] (ie.of (by rfl) A A A c (fI.2 λ_ _=>trivial)) (k1 _))
 |rL a H1=>exact i.elim
def y5{ks T f args a'}(h:kb ks T f args (λa=> ∀σ,H_ σ a a')):af PP II f args (n_ 12) (.ret a' (n_ 12)):=
 af.Yr fU ks (aX PP II T) 1000 h
def k8(v:Nat):AV:=.ae (au v) 1 (aI v)
def oQ(σ)(v):H_ σ (k8 v) (k8 v):=⟨rfl,rfl,λ_ _=>cw _ _ _⟩
def Vd{a m k:Nat}(j:0<m)(ha:au a<=k)(l:k<=80000)(c:au m<=80000):af PP II 187 [.ae k 1 (aI a),.ae (au m) 1 (aI m)] (n_ 12) (.ret (.bM [k8 (a/m),k8 (a%m)]) (n_ 12)):=by
 refine y5 (T:=[(1002,19,Is k m a (aU (a/m)) (vH a m) (false,M k-1),It k m a (aU (a/m)) (vH a m))]) ((Vb k m a (aU (a/m)) (vH a m) _ A A A A).mpr ?_);have n:au (a/m)<=k:=v_ (oJ (Nat.div_le_self a m)) ha;have e:=vG (k:=k) (f:=λi=>ah (qW (aU (a/m)) (-1)) (0+i)) (g:=aI (a/m)) λi _=>by show [k_ _ (qW (aU (a/m)) (-1) (0+i))]=[k_ _ (aU (a/m) i)];rw[t_];rfl
 rw[e.1,e.2,cO,mw n];have o:vH a m (-1)=a%m:=by show yH a m 0=_;unfold yH;rw[Nat.pow_zero,Nat.div_one]
 rw[o];have all:∀(k:Nat),(o_ (p_ k) λ_=>true)=true:=zA;have b:(a_ (au (a%m)=au (a%m))&&true&&o_ (p_ (au (a%m))) λi=>a_ (aU (a%m) i=aU (a%m) i)&&true)=true:=zA;refine ZF (by simp only[ba,bl,kQ,D_];grind) (ZF (ai Y Y) ⟨MV j ha l c,rfl,rfl,aan A ⟨dG _ _,aan A ⟨?_,aan A (aan A (aan A ⟨dG _ _,aag A (aaz (λh=>?_) λ_=>?_)⟩))⟩⟩⟩)
 ·intro i hi σ;have hi:i<k:=hi;show bj.le σ [k_ l_ 0] [k_ l_ (qW (aU (a/m)) (M k-1) i)];have p:(M k-1+1).toNat=k:=by show((k:Int)-1+1).toNat=_;omega
  have:qW (aU (a/m)) (M k-1) i=0:=by unfold qW;rw[p,show e_ i k=true by simp_all]
  rw[this];exact⟨⟨rfl,rfl⟩,trivial⟩
 ·have q:k=0:=dV h;have d:a=0:=by have:=dc.1 (O:au a<=0);simpa using this
  refine ZF (eJ (all _) (bK O)) (ZF (eJ A (il O)) λσ=>⟨oQ σ _,?_,trivial⟩);show au (a%m)=0;rw[d,K_,hZ]
 ·exact ZF (eJ (all _) (bK O)) (ZF (eJ A (il O)) (ZF b (ZF b λσ=>⟨oQ σ _,oQ σ _,trivial⟩)))
def Rel.under{c ρ H w w'}(h:Rel c ρ H w)(k:Go.RowKit.Below w.heap.size w w'):Rel c ρ H w' where
 eB l:=by
  by_cases d:H.get l= .dead
  ·rw[d];trivial
  ·exact bn.world (λr N i=>k.block r (h.lt d i)) (h.eB l)
 sep:=h.sep
 iB:=h.iB
 gY j a:=⟨(h.gY j a).1,(k.block j (Nat.lt_of_lt_of_le (h.gY j a).1 h.size)).trans (h.gY j a).2⟩
 size:=v_ h.size k.size
 os:=k.os.trans h.os
 output:=k.output.trans h.output
 tape:=k.tape.trans h.tape
 top:=h.top
 eZ:=h.eZ
 hid:=h.hid
 env:=h.env
 low:=h.low
 sY b vs m:=by obtain⟨el,o,f⟩:=h.sY b vs m;exact⟨el,o,(k.block b (Array.getElem?_eq_some_iff.1 f).1).trans f⟩
 sy:=h.sy
 tJ:=h.tJ
 sZ:=h.sZ
def af.qZ{P I f args a H}(d:∀(vs)(w),(callFunc f vs).run P w= .ok (.enter f vs) w)
  (h:∀c ρ w vs,c.G=I.G->aV ρ args vs->Rel c ρ H w->Calls P f vs.toArray w λe w'=> ∃v,e= .returned v/\VR ρ a v/\Go.RowKit.Below w.heap.size w w'):af P I f args H (.ret a H):=by
 intro c ρ w vs hG i b;refine .inl ⟨d _ _,(h c ρ w vs hG i b).mono ?_⟩
 rintro e w' ⟨v,rfl,h1,j⟩
 exact⟨ρ,Ext.refl ρ,b.under j,h1⟩
end
end Go.Sx
