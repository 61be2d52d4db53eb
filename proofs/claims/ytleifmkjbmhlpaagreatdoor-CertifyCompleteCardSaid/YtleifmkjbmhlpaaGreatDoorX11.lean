/- The proof of a statement of the seat, part 11. -/
import Derived.Test.YtleifmkjbmhlpaaGreatDoorX10
set_option linter.all false
set_option linter.defProp false
set_option maxRecDepth 1000000
namespace Go.Sx
open Go
open Int renaming ofNat->M,natCast_nonneg->c_,toNat_natCast->l_
open Decidable renaming decide->z
open AH renaming blank->a_
open Bool renaming not_eq_false'->b_,not_eq_true'->d_
open Nat renaming ble->e_,zero_le->h_,blt->i_,div_eq_of_lt->m_,beq->o_,div_one->p_
open Go.IntKind renaming i64->f_
open List renaming take->j_,drop->k_
noncomputable section
def eJ{p q}(a:p=true)(b:q=true):(p&&q)=true:=by rw[a,b];rfl
def dU(W)(n):an n (ah W) (ah W):=aaX λ_ _=>gw _ _ _
def oL(f g):an 0 f g:=λi hi=>absurd hi (qx i)
def kS{i W y}(h:y=W i):an (i+1) (λa=>bif i_ a i then ah W a else j_ 1 (k_ (0+(a-i)*1) [AV.int f_ y])) (ah W):=λj b σ=>by
 show bj.le σ (bif i_ j i then ah W j else j_ 1 (k_ (0+(j-i)*1) [AV.int f_ y])) (ah W j);cases c:i_ j i with
 |true=>exact gw _ _ _
 |false=>
  have:j=i:=by
   have :¬ j<i:=λe=>by rw[<-Nat.blt_eq]at e;grind
   omega
  subst this;rw[Nat.sub_self,h];exact gw _ _ _
def ki{W y}(h:y=W 0):an 1 (λi=>bif i_ i 0 then ah W (0+i)else j_ 1 (k_ (0+(i-0)*1) [AV.int f_ y])) (ah W):=λj a σ=>by
 have:j=0:=O;subst this;rw[h];exact gw _ _ _
def Mj{k m N L a d W D C}(H:mT N L D W C)(x:∀i,cX k (ah a) (M i)+cX m (ah d) (M i)=D i):ay PP II false (az II 230 3007) 15 (og 231 (sM k a) (sM m d) N W C (false,0,0)) (ji N W L):=
 ay.of (ι:=Bool×Nat×Int) fU [uh] (aX PP II []) 1000 15 (λi=>(i.1=false->i=(false,0,0))/\(i.1=true->1<=i.2.1/\i.2.2=M i.2.1)/\i.2.1<=L) (og 231 (sM k a) (sM m d) N W C) (λ_=>ji N W L) (λi=>L-i.2.1) (λi=>(true,i.2.1+1,i.2.2+1)) (false,0,0) A
  ⟨λ_=>rfl,(λh=>zE),h_ _⟩ λi hi=>by
  obtain⟨E,i,j⟩:=i;obtain⟨F,q,o⟩:=hi;change i<=L at o;have I:=H.n;have hl:=H.l;cases E with
  |false=>
   cases F rfl;have s:cX k (ah a) 0+cX m (ah d) 0=D 0:=x 0;refine(H8 k m N L a d W C _ A).mpr ?_;rw[s];have p:0<L->((true=false->(true,0+1,(0:Int)+1)=(false,0,0))/\(true=true->1<=0+1/\(0:Int)+1=M (0+1))/\0+1<=L)/\L-(0+1)<L-0/\(ji N W L).pick=(ji N W L).pick:=λhi=>Y
   refine aaz (λh=>?_) (λh=>aaz (λq=>?_) (λq=>?_));rotate_left 2
   ·have:L=0:=(H.stop 0 o (by simp_all) (by simpa using q)).symm;subst this;exact aaz (λ_=>⟨oL _ _,aan A trivial⟩) (λe=>zG)
   all_goals
    have hi:0<L:=by first|exact H.XR 0 o (by simpa using q)|exact H.XQ 0 Y
    have G:=H.db 0 hi;have t:=H.b 0 hi;have g:=oK t.1 (H.w 0 hi) (H.c 0 hi);have r:=p hi;refine ZF zA (ZF zA (ZF zA ?_));refine ZF (ai O O) (ZF (ai O O) (aaz (λhx=>ZF (ai O O) (aaz (λ_=>?_) λ_=>?_)) (λhx=>aaz (λf=>ZF (ai Y Y) (aaz (λ_=>?_) λ_=>?_)) (λf=>aaz (λ_=>?_) λ_=>?_))))
    all_goals simp only[bl,je]at hx
    all_goals(try simp only[bl,je]at f)
    all_goals refine ZF (by rfl) ⟨?_,?_⟩
    all_goals first|exact ki (g.1 hx).1|exact ki (g.2.1 f).2|exact ki (g.2.2 hx f).1|(refine aan A ⟨dU _ _,aan A ⟨dU _ _,?_⟩⟩);first|exact aag (g.1 hx).2 (aag A r)|exact aag (g.2.1 f).1 (aag A r)|exact aag (g.2.2 hx f).2 (aag A r)
  |true=>
   obtain⟨u,y⟩:=q rfl;change 1<=i at u;change j=M i at y;subst y;refine(H9 k m N L i (M i) a d W C _ A).mpr ?_;rw[x i];have p:i<L->((true=false->(true,i+1,M i+1)=(false,0,0))/\(true=true->1<=i+1/\M i+1=M (i+1))/\i+1<=L)/\L-(i+1)<L-i/\(ji N W L).pick=(ji N W L).pick:=λhi=>Y
   have v:aJ f_ (M i+1)=true:=ai Y Y;have J:(0:Int)<=M i:=c_ i;refine aaz (λh=>?_) (λh=>aaz (λq=>?_) (λq=>?_));rotate_left 2
   ·have:i=L:=H.stop i o (by simp_all) (by simpa using q);subst this;refine aaz (λh3=>?_) λ_=>aan A ⟨dU _ _,aan A trivial⟩
    simp_all
   all_goals
    have hi:i<L:=by first|exact H.XR i o (by simpa using q)|exact H.XQ i Y
    have G:=H.db i hi;have t:=H.b i hi;have g:=oK t.1 (H.w i hi) (H.c i hi);have r:=p hi;have cap:(z (i<=i)&&true&&true&&z ((i+1)*8<=140737488355328)&&true)=true:=by simp;omega
    refine ZF zA (ZF zA (ZF zA ?_));refine ZF (ai O O) (ZF (ai O O) (aaz (λhx=>ZF (ai O O) (ZF cap (ZF v ?_))) (λhx=>aaz (λf=>ZF (ai Y Y) (ZF cap (ZF v ?_))) (λf=>ZF cap (ZF v ?_)))))
    all_goals simp only[bl,je]at hx
    all_goals(try simp only[bl,je]at f)
    all_goals refine aan A ⟨?_,?_⟩
    all_goals first|exact kS (g.1 hx).1|exact kS (g.2.1 f).2|exact kS (g.2.2 hx f).1|(refine aan A ⟨dU _ _,aan A ⟨dU _ _,?_⟩⟩);refine aan A ?_;first|exact aag (g.1 hx).2 (aag A (aag A r))|exact aag (g.2.1 f).1 (aag A (aag A r))|exact aag (g.2.2 hx f).2 (aag A (aag A r))
def Ia{k m N L a d W D C}(H:mT N L D W C)(x:∀i,cX k (ah a) (M i)-cX m (ah d) (M i)=D i):ay PP II false (az II 230 3007) 15 (og 233 (sM k a) (sM m d) N W C (false,0,0)) (ji N W L):=
 ay.of (ι:=Bool×Nat×Int) fU [uh] (aX PP II []) 1000 15 (λi=>(i.1=false->i=(false,0,0))/\(i.1=true->1<=i.2.1/\i.2.2=M i.2.1)/\i.2.1<=L) (og 233 (sM k a) (sM m d) N W C) (λ_=>ji N W L) (λi=>L-i.2.1) (λi=>(true,i.2.1+1,i.2.2+1)) (false,0,0) A
  ⟨λ_=>rfl,(λh=>zE),h_ _⟩ λi hi=>by
  obtain⟨E,i,j⟩:=i;obtain⟨F,q,o⟩:=hi;change i<=L at o;have I:=H.n;have hl:=H.l;cases E with
  |false=>
   cases F rfl;have s:cX k (ah a) 0-cX m (ah d) 0=D 0:=x 0;refine(EW k m N L a d W C _ A).mpr ?_;rw[s];have p:0<L->((true=false->(true,0+1,(0:Int)+1)=(false,0,0))/\(true=true->1<=0+1/\(0:Int)+1=M (0+1))/\0+1<=L)/\L-(0+1)<L-0/\(ji N W L).pick=(ji N W L).pick:=λhi=>Y
   refine aaz (λh=>?_) (λh=>aaz (λq=>?_) (λq=>?_));rotate_left 2
   ·have:L=0:=(H.stop 0 o (by simp_all) (by simpa using q)).symm;subst this;exact aaz (λ_=>⟨oL _ _,aan A trivial⟩) (λe=>zG)
   all_goals
    have hi:0<L:=by first|exact H.XR 0 o (by simpa using q)|exact H.XQ 0 Y
    have G:=H.db 0 hi;have t:=H.b 0 hi;have g:=oK t.1 (H.w 0 hi) (H.c 0 hi);have r:=p hi;refine ZF zA (ZF zA (ZF zA ?_));refine ZF (ai O O) (ZF (ai O O) (aaz (λhx=>ZF (ai O O) (aaz (λ_=>?_) λ_=>?_)) (λhx=>aaz (λf=>ZF (ai Y Y) (aaz (λ_=>?_) λ_=>?_)) (λf=>aaz (λ_=>?_) λ_=>?_))))
    all_goals simp only[bl,je]at hx
    all_goals(try simp only[bl,je]at f)
    all_goals refine ZF (by rfl) ⟨?_,?_⟩
    all_goals first|exact ki (g.1 hx).1|exact ki (g.2.1 f).2|exact ki (g.2.2 hx f).1|(refine aan A ⟨dU _ _,aan A ⟨dU _ _,?_⟩⟩);first|exact aag (g.1 hx).2 (aag A r)|exact aag (g.2.1 f).1 (aag A r)|exact aag (g.2.2 hx f).2 (aag A r)
  |true=>
   obtain⟨u,y⟩:=q rfl;change 1<=i at u;change j=M i at y;subst y;refine(EX k m N L i (M i) a d W C _ A).mpr ?_;rw[x i];have p:i<L->((true=false->(true,i+1,M i+1)=(false,0,0))/\(true=true->1<=i+1/\M i+1=M (i+1))/\i+1<=L)/\L-(i+1)<L-i/\(ji N W L).pick=(ji N W L).pick:=λhi=>Y
   have v:aJ f_ (M i+1)=true:=ai Y Y;have J:(0:Int)<=M i:=c_ i;refine aaz (λh=>?_) (λh=>aaz (λq=>?_) (λq=>?_));rotate_left 2
   ·have:i=L:=H.stop i o (by simp_all) (by simpa using q);subst this;refine aaz (λh3=>?_) λ_=>aan A ⟨dU _ _,aan A trivial⟩
    simp_all
   all_goals
    have hi:i<L:=by first|exact H.XR i o (by simpa using q)|exact H.XQ i Y
    have G:=H.db i hi;have t:=H.b i hi;have g:=oK t.1 (H.w i hi) (H.c i hi);have r:=p hi;have cap:(z (i<=i)&&true&&true&&z ((i+1)*8<=140737488355328)&&true)=true:=by simp;omega
    refine ZF zA (ZF zA (ZF zA ?_));refine ZF (ai O O) (ZF (ai O O) (aaz (λhx=>ZF (ai O O) (ZF cap (ZF v ?_))) (λhx=>aaz (λf=>ZF (ai Y Y) (ZF cap (ZF v ?_))) (λf=>ZF cap (ZF v ?_)))))
    all_goals simp only[bl,je]at hx
    all_goals(try simp only[bl,je]at f)
    all_goals refine aan A ⟨?_,?_⟩
    all_goals first|exact kS (g.1 hx).1|exact kS (g.2.1 f).2|exact kS (g.2.2 hx f).1|(refine aan A ⟨dU _ _,aan A ⟨dU _ _,?_⟩⟩);refine aan A ?_;first|exact aag (g.1 hx).2 (aag A (aag A r))|exact aag (g.2.1 f).1 (aag A (aag A r))|exact aag (g.2.2 hx f).2 (aag A (aag A r))
def UN{k N L b a W D C}(H:mT N L D W C)(u:∀i,cX k (ah a) (M i)*b=D i):ay PP II false (az II 230 3007) 15 (og 248 (sM k a) (Zw b) N W C (false,0,0)) (ji N W L):=
 ay.of (ι:=Bool×Nat×Int) fU [uh] (aX PP II []) 1000 15 (λi=>(i.1=false->i=(false,0,0))/\(i.1=true->1<=i.2.1/\i.2.2=M i.2.1)/\i.2.1<=L) (og 248 (sM k a) (Zw b) N W C) (λ_=>ji N W L) (λi=>L-i.2.1) (λi=>(true,i.2.1+1,i.2.2+1)) (false,0,0) A
  ⟨λ_=>rfl,(λh=>zE),h_ _⟩ λi hi=>by
  obtain⟨x,i,j⟩:=i;obtain⟨y,o,g⟩:=hi;change i<=L at g;have F:=H.n;have hl:=H.l;cases x with
  |false=>
   cases y rfl;have q:cX k (ah a) 0*b=D 0:=u 0;refine(Qn k N L b a W C _ A).mpr ?_;rw[q];have m:0<L->((true=false->(true,0+1,(0:Int)+1)=(false,0,0))/\(true=true->1<=0+1/\(0:Int)+1=M (0+1))/\0+1<=L)/\L-(0+1)<L-0/\(ji N W L).pick=(ji N W L).pick:=λhi=>Y
   refine aaz (λh=>?_) (λh=>aaz (λo=>?_) (λo=>?_));rotate_left 2
   ·have:L=0:=(H.stop 0 g (by simp_all) (by simpa using o)).symm;subst this;exact aaz (λ_=>⟨oL _ _,aan A trivial⟩) (λe=>zG)
   all_goals
    have hi:0<L:=by first|exact H.XR 0 g (by simpa using o)|exact H.XQ 0 Y
    have E:=H.db 0 hi;have r:=H.b 0 hi;have f:=oK r.1 (H.w 0 hi) (H.c 0 hi);have p:=m hi;refine ZF zA (ZF zA ?_);refine ZF (ai O O) (ZF (ai O O) (aaz (λhx=>ZF (ai O O) (aaz (λ_=>?_) λ_=>?_)) (λhx=>aaz (λd=>ZF (ai Y Y) (aaz (λ_=>?_) λ_=>?_)) (λd=>aaz (λ_=>?_) λ_=>?_))))
    all_goals simp only[bl,je]at hx
    all_goals(try simp only[bl,je]at d)
    all_goals refine ZF (by rfl) ⟨?_,?_⟩
    all_goals first|exact ki (f.1 hx).1|exact ki (f.2.1 d).2|exact ki (f.2.2 hx d).1|(refine aag A (aan A ⟨dU _ _,?_⟩));first|exact aag (f.1 hx).2 (aag A p)|exact aag (f.2.1 d).1 (aag A p)|exact aag (f.2.2 hx d).2 (aag A p)
  |true=>
   obtain⟨s,v⟩:=o rfl;change 1<=i at s;change j=M i at v;subst v;refine(Qo k N L i b (M i) a W C _ A).mpr ?_;rw[u i];have m:i<L->((true=false->(true,i+1,M i+1)=(false,0,0))/\(true=true->1<=i+1/\M i+1=M (i+1))/\i+1<=L)/\L-(i+1)<L-i/\(ji N W L).pick=(ji N W L).pick:=λhi=>Y
   have t:aJ f_ (M i+1)=true:=ai Y Y;have G:(0:Int)<=M i:=c_ i;refine aaz (λh=>?_) (λh=>aaz (λo=>?_) (λo=>?_));rotate_left 2
   ·have:i=L:=H.stop i g (by simp_all) (by simpa using o);subst this;refine aaz (λh3=>?_) λ_=>aan A ⟨dU _ _,aan A trivial⟩
    simp_all
   all_goals
    have hi:i<L:=by first|exact H.XR i g (by simpa using o)|exact H.XQ i Y
    have E:=H.db i hi;have r:=H.b i hi;have f:=oK r.1 (H.w i hi) (H.c i hi);have p:=m hi;have cap:(z (i<=i)&&true&&true&&z ((i+1)*8<=140737488355328)&&true)=true:=by simp;omega
    refine ZF zA (ZF zA ?_);refine ZF (ai O O) (ZF (ai O O) (aaz (λhx=>ZF (ai O O) (ZF cap (ZF t ?_))) (λhx=>aaz (λd=>ZF (ai Y Y) (ZF cap (ZF t ?_))) (λd=>ZF cap (ZF t ?_)))))
    all_goals simp only[bl,je]at hx
    all_goals(try simp only[bl,je]at d)
    all_goals refine aan A ⟨?_,?_⟩
    all_goals first|exact kS (f.1 hx).1|exact kS (f.2.1 d).2|exact kS (f.2.2 hx d).1|(refine aag A (aan A ⟨dU _ _,?_⟩));refine aan A ?_;first|exact aag (f.1 hx).2 (aag A (aag A p))|exact aag (f.2.1 d).1 (aag A (aag A p))|exact aag (f.2.2 hx d).2 (aag A (aag A p))
def cb(v):numOf (au v) (aI v)=v:=mw (dP _)
def yK{N V}(a:V<10000^(N+1))(b:N<=100000){Q:AV->Prop}(hQ:Q (.ae (au V) 1 (aI V))):
  (ak (o_ (fK N V) 0) (B ((dy 0 λi=>ah (aU V) (0+i))&&true) (Q (AV.ae (au (numOf 0 λi=>ah (aU V) (0+i))) 1 (aI (numOf 0 λi=>ah (aU V) (0+i))))))
   (B ((List.all (List.range.loop (fK N V) []) λ_=>true)&&z (fK N V<=fK N V)) (B (dy (fK N V) (ah (aU V))&&e_ (fK N V) 1000000) (Q (AV.ae (au (numOf (fK N V) (ah (aU V)))) 1 (aI (numOf (fK N V) (ah (aU V))))))))):=by
 have hl:=Ql a;have c:fK N V<=100001:=by unfold fK;split<;>omega
 refine aaz (λh=>ZF A ?_) (λ_=>ZF zA (ZF (eJ (cO _ V) (il O)) ?_))
 ·have d:fK N V=0:=dV h;have:V=0:=by have:=dc.1 (O:au V<=0);simpa using this
  subst this;exact hQ
 ·have:numOf (fK N V) (ah (aU V))=V:=mw hl;rw[this];exact hQ
def UO{a b k m}(ha:au a<=k)(c:au b<=m)(i):cX k (ah (aU a)) (M i)+cX m (ah (aU b)) (M i)=M (bH a i)+M (bH b i):=by
 have d:cX k (ah (aU a)) (M i)=M (bH a i):=qM ha;have e:cX m (ah (aU b)) (M i)=M (bH b i):=qM c;rw[d,e]
def UP{a b k m}(ha:au a<=k)(c:au b<=m)(d:k<=90000)(f:m<=90000):af PP II 188 [.ae k 1 (aI a),.ae m 1 (aI b)] (a_ 12) (.ret (.ae (au (a+b)) 1 (aI (a+b))) (a_ 12)):=by
 have e:(if M m>M k then M m else M k)=M (max k m):=by
  by_cases h:M m>M k
  ·rw[if_pos h,Nat.max_eq_right (Nat.le_of_lt (Int.ofNat_lt.1 h))]
  ·rw[if_neg h,Nat.max_eq_left (Nat.le_of_not_lt λe=>h (Int.ofNat_lt.2 e))]
 have g:max k m<=90000:=O;generalize j:max k m=N at*;refine bQ (T:=[(3007,15,og 231 (sM k (aU a)) (sM m (aU b)) N (aU (a+b)) (fX λi=>M (bH a i)+M (bH b i)) (false,0,0),ji N (aU (a+b)) (fK N (a+b)))]) (λ_=>⟨rfl,rfl,λ_ _=>cw _ _ _⟩) ((UM k m N (fK N (a+b)) (aU a) (aU b) (aU (a+b)) _ _ A).mpr ?_);rw[e];have f1:M N+1=((N+1:Nat):Int):=rfl;rw[f1];refine ZF (ai O O) (ZF (by simp only[ba,bl,kQ];omega) ⟨Mj (Mf O O O) λi=>UO ha c i,oL _ _,aan A ⟨dU _ _,aan A ⟨dU _ _,aan O (aag (carry_zero _).symm (aag A (yK (V:=a+b) (Q:=λx=>x= .ae (au (a+b)) 1 (aI (a+b))) (XS O O) O A)))⟩⟩⟩)
def abG:ax PP II:=ax.pure 188
 (λX args a=>match args with
  |[.ae k 1 f,.ae m 1 g]=>X.ag (dy k f&&dy m g&&e_ k 90000&&e_ m 90000) (a (.ae (au (numOf k f+numOf m g)) 1 (aI (numOf k f+numOf m g))))
  |_=>X.fail)
 λX sem hX args a h=>by
  split at h
  ·obtain⟨b,c⟩:=hX.ag _ _ h;simp only[ba]at b;obtain⟨⟨⟨a1,a2⟩,d⟩,a4⟩:=b;exact⟨_,c,λ_=>rfl,λ_=>rfl,(UP (fw _ _ (mU a1).1) (fw _ _ (mU a2).1) (fT d) (fT a4)).cS ⟨kf a1,kf a2,trivial⟩⟩
  ·exact zR
def Qp{a b k m}(ha:au a<=k)(c:au b<=m)(i):cX k (ah (aU a)) (M i)-cX m (ah (aU b)) (M i)=M (bH a i)-M (bH b i):=by
 have d:cX k (ah (aU a)) (M i)=M (bH a i):=qM ha;have e:cX m (ah (aU b)) (M i)=M (bH b i):=qM c;rw[d,e]
def Qq{a b k m}(c:b<=a)(ha:au a<=k)(d:au b<=m)(e:k<=90000):af PP II 190 [.ae k 1 (aI a),.ae m 1 (aI b)] (a_ 12) (.ret (.ae (au (a-b)) 1 (aI (a-b))) (a_ 12)):=by
 refine bQ (T:=[(3007,15,og 233 (sM k (aU a)) (sM m (aU b)) k (aU (a-b)) (fX λi=>M (bH a i)-M (bH b i)) (false,0,0),ji k (aU (a-b)) (fK k (a-b)))]) (λ_=>⟨rfl,rfl,λ_ _=>cw _ _ _⟩) ((Qm k m k (fK k (a-b)) (aU a) (aU b) (aU (a-b)) _ _).mpr ?_);have f1:M k+1=((k+1:Nat):Int):=rfl;rw[f1];refine ZF (ai O O) (ZF (by simp only[ba,bl,kQ];omega) ⟨Ia (H5 c ha O) λi=>Qp ha d i,oL _ _,aan A ⟨dU _ _,aan A ⟨dU _ _,aan O (aag (carry_zero _).symm (aag A (yK (V:=a-b) (Q:=λx=>x= .ae (au (a-b)) 1 (aI (a-b))) (UK ha) O A)))⟩⟩⟩)
def Ib:ax PP II:=ax.pure 190
 (λX args a=>match args with
  |[.ae k 1 f,.ae m 1 g]=>X.ag (dy k f&&dy m g&&e_ (numOf m g) (numOf k f)&&e_ k 90000) (a (.ae (au (numOf k f-numOf m g)) 1 (aI (numOf k f-numOf m g))))
  |_=>X.fail)
 λX sem hX args a h=>by
  split at h
  ·obtain⟨b,c⟩:=hX.ag _ _ h;simp only[ba]at b;obtain⟨⟨⟨a1,a2⟩,d⟩,a4⟩:=b;exact⟨_,c,λ_=>rfl,λ_=>rfl,(Qq (fT d) (fw _ _ (mU a1).1) (fw _ _ (mU a2).1) (fT a4)).cS ⟨kf a1,kf a2,trivial⟩⟩
  ·exact zR
def Z5{a n k:Nat}(b:n<10000)(ha:au a<=k)(c:k<=90000):af PP II 227 [.ae k 1 (aI a),.int f_ n] (a_ 12) (.ret (.ae (au (a*n)) 1 (aI (a*n))) (a_ 12)):=by
 refine bQ (T:=[(3007,15,og 248 (sM k (aU a)) (Zw n) k (aU (a*n)) (fX λi=>M (bH a i)*(n:Int)) (false,0,0),ji k (aU (a*n)) (fK k (a*n)))]) (λ_=>⟨rfl,rfl,λ_ _=>cw _ _ _⟩) ((Z4 k k (fK k (a*n)) n (aU a) (aU (a*n)) _ _).mpr ?_);have f1:M k+1=((k+1:Nat):Int):=rfl;rw[f1];refine ZF (ai O O) (ZF (by simp only[ba,bl,kQ];omega) ⟨UN (UJ b ha O) λi=>by rw[show cX k (ah (aU a)) (M i)=M (bH a i)from qM ha],oL _ _,aag A (aan A ⟨dU _ _,aan O (aag (carry_zero _).symm (aag A (yK (V:=a*n) (Q:=λx=>x= .ae (au (a*n)) 1 (aI (a*n))) (Dd b ha) O A)))⟩)⟩)
def XT:ax PP II:=ax.pure 227
 (λX args a=>match args with
  |[.ae k 1 f,.int f_ n]=>X.ag (dy k f&&z (0<=n)&&z (n<10000)&&e_ k 90000) (a (.ae (au (numOf k f*n.toNat)) 1 (aI (numOf k f*n.toNat))))
  |_=>X.fail)
 λX sem hX args a h=>by
  split at h
  ·rename_i n;obtain⟨b,c⟩:=hX.ag _ _ h;simp only[ba,bl]at b;obtain⟨⟨⟨a1,a2⟩,d⟩,a4⟩:=b;refine⟨_,c,λ_=>rfl,λ_=>rfl,?_⟩;exact(Z5 (n:=n.toNat) O (fw _ _ (mU a1).1) (fT a4)).cS ⟨kf a1,⟨rfl,(Int.toNat_of_nonneg a2).symm⟩,trivial⟩
  ·exact zR
def XU(k m:Nat)(a b:Nat->Int)(r:Int)(c:LoopState)(d:Option Code):AH:={n:=17,t:=Tr.ofList [(12,sM m b),(13,.cells [.int f_ r] (.ty 3)),(14,sM k a),(15,.tL),(16,.loop c d (Tr.ofList [(3,.ptr 12 0 0 0),(4,.ptr 13 0 0 0)]) 33 [19,20] (aP II 192) (aQ II 192) 15)]}
def Mk(k m:Nat)(a b:Nat->Int)(j:Int):St:={t:=Tr.ofList [(0,.yield 16),(1,.ptr 14 0 0 0),(3,.int f_ j)],nt:=19,H:=XU k m a b 0 .ready none,df:=[]}
def Ml(k m:Nat)(a c:Nat->Int)(b:Bool)(r:Int):GE:=.cond b (.one (.r {t:=.e,nt:=19,H:=XU k m a c r .done (some .ret),df:=[]})) (.one (.x 0 {t:=.e,nt:=19,H:=XU k m a c 0 .ready none,df:=[]}))
def Mm(k m)(a c)(b)(r j)(Q):(kr [oI] [] 247 1002 17 (Mk k m a c) (λ_=>Ml k m a c b r) (λj=>j-1) Q j)=(ak (z (j>=0)) (B (z (0<=j)&&z (j<M k)) (B (z (0<=j)&&z (j<M m)) (ak (!decide (a j.toNat=c j.toNat)) (B (z (0<=j)&&z (j<M m)) (ak b (aH Code.ret Code.ret/\aH (aP II 192) (aP II 192)/\aH (aQ II 192) (aQ II 192)/\zyN k (zyR k (ah a) (aS (ud (a j.toNat) (c j.toNat)) r (zyN m (zyR m (ah c) True))))) False)) (B (aJ f_ (j-1)) (aH (aP II 192) (aP II 192)/\aH (aQ II 192) (aQ II 192)/\zyN k (zyR k (ah a) (zyN m (zyR m (ah c) (zyI (j-1) Q))))))))) (ak b False (aH (aP II 192) (aP II 192)/\aH (aQ II 192) (aQ II 192)/\zyN k (zyR k (ah a) (zyN m (zyR m (ah c) True)))))):=U
def UQ(k m)(a c)(b)(r)(Q):(kb [oI] [(1002,17,Mk k m a c (M k-1),Ml k m a c b r)] 192 [.ae k 1 (ah a),.ae m 1 (ah c)] Q)=(ak (!decide (M k=M m)) (Q (AV.int f_ (ud (M k) (M m)))) (B (aJ f_ (M k-1)) (ay PP II false (az II 247 1002) 17 (Mk k m a c (M k-1)) (Ml k m a c b r)/\aH (aP II 192) (aP II 192)/\aH (aQ II 192) (aQ II 192)/\zyN k (zyR k (ah a) (zyN m (zyR m (ah c) (zyI (M k-1) (ak b (Q (AV.int f_ r)) (Q (AV.int f_ 0)))))))))):=U
def EY(x y):ud (M x) (M y)=eT x y:=by
 unfold ud eT;simp
def Mn{a b}(g:au a=au b)(hl:au a<=1000000):ay PP II false (az II 247 1002) 17 (Mk (au a) (au b) (aU a) (aU b) (M (au a)-1)) (Ml (au a) (au b) (aU a) (aU b) (!decide (a=b)) (eT a b)):=
 ay.of (ι:=Int) fU [oI] (aX PP II []) 1000 17 (λj=> -1<=j/\j<au a/\a/10000^(j+1).toNat=b/10000^(j+1).toNat) (Mk (au a) (au b) (aU a) (aU b)) (λ_=>Ml (au a) (au b) (aU a) (aU b) (!decide (a=b)) (eT a b)) (λj=>(j+1).toNat) (λj=>j-1) (M (au a)-1) A
  ⟨Y,Y,by
   have e:(M (au a)-1+1).toNat=au a:=by show((au a:Int)-1+1).toNat=_;omega
   rw[e,m_ (iX a),g,m_ (iX b)]⟩ λj ⟨h1,k,h3⟩=>by
  refine(Mm (au a) (au b) (aU a) (aU b) _ _ j _).mpr ?_;refine aaz (λh=>?_) λh=>?_
  ·simp only[bl]at h;obtain⟨i,rfl⟩:∃i:Nat,j=(i:Int):=⟨j.toNat,O⟩;have d:((i:Int)+1).toNat=i+1:=O;rw[d]at h3;have l:(i:Int)<M (au b):=by rw[<-g];exact k
   refine ZF (pR h k) (ZF (pR h l) (aaz (λh4=>ZF (pR h l) ?_) λh4=>ZF (ai O O) ?_))
   ·simp only[d_,je,l_]at h4;have c:bH a i≠bH b i:=λe=>h4 (by show M (bH a i)=M (bH b i);rw[e])
    have f:(!decide (a=b))=true:=by simp only[d_,je];intro e;rw[e]at c;exact c A
    rw[f];refine⟨rfl,rfl,rfl,aan A ⟨dU _ _,aag ?_ (aan A ⟨dU _ _,trivial⟩)⟩⟩;show ud (M (bH a i)) (M (bH b i))=_;rw[EY,Qj h3 c];unfold eT;omega
   ·simp only[b_,bl,l_]at h4;have m:bH a i=bH b i:=Int.ofNat.inj h4;refine⟨rfl,rfl,aan A ⟨dU _ _,aan A ⟨dU _ _,aag A ⟨⟨O,O,?_⟩,O,rfl⟩⟩⟩⟩;have n:((i:Int)-1+1).toNat=i:=O;rw[n];exact Qk h3 m
  ·simp only[je]at h;have d:(j+1).toNat=0:=O;rw[d,Nat.pow_zero,p_,p_]at h3;rw[bK h3];exact⟨rfl,rfl,aan A ⟨dU _ _,aan A ⟨dU _ _,trivial⟩⟩⟩
def Kp{a b}(ha:au a<=1000000):af PP II 192 [.ae (au a) 1 (aI a),.ae (au b) 1 (aI b)] (a_ 12) (.ret (.int f_ (eT a b)) (a_ 12)):=by
 refine bQ (T:=[(1002,17,Mk (au a) (au b) (aU a) (aU b) (M (au a)-1),Ml (au a) (au b) (aU a) (aU b) (!decide (a=b)) (eT a b))]) (λ_=>⟨rfl,rfl⟩) ((UQ (au a) (au b) (aU a) (aU b) _ _ _).mpr ?_);refine aaz (λh=>?_) λh=>ZF (ai Y Y) ?_
 ·simp only[d_,je]at h;have c:au a≠au b:=λe=>h (by rw[e])
  rw[EY,UI c];unfold eT
  grind
 ·simp only[b_,bl]at h;have f:au a=au b:=Int.ofNat.inj h;refine⟨Mn f ha,rfl,rfl,aan A ⟨dU _ _,aan A ⟨dU _ _,aag A (aaz (λ_=>rfl) λd=>?_)⟩⟩⟩;simp only[b_,bl]at d;subst d;unfold eT;simp
def Kq:ax PP II:=ax.pure 192
 (λX args c=>match args with
  |[.ae k 1 f,.ae m 1 g]=>X.ag (dy k f&&dy m g&&o_ k (au (numOf k f))&&o_ m (au (numOf m g))&&e_ k 1000000) (c (.int f_ (eT (numOf k f) (numOf m g))))
  |_=>X.fail)
 λX sem hX args c h=>by
  split at h
  ·rename_i k f m g;obtain⟨d,e⟩:=hX.ag _ _ h;simp only[ba]at d;obtain⟨⟨⟨⟨a1,a2⟩,i⟩,a4⟩,j⟩:=d;have l:=dV i;have n:=dV a4;have o:=fT j;have l1:=kf a1;have l2:=kf a2;refine⟨_,e,λ_=>rfl,λ_=>rfl,?_⟩;refine(Kp (a:=numOf k f) (b:=numOf m g) O).cS ⟨⟨l,rfl,l1.2.2⟩,⟨n,rfl,l2.2.2⟩,trivial⟩
  ·exact zR
end
end Go.Sx
