/- The proof of a statement of the seat, part 32. -/
import Derived.Test.YtoijalagmmgkbaaGreatDoorX31
import Derived.Test.YtoijalagmmgkbaaGreatDoorX14
import Derived.Test.YtoijalagmmgkbaaGreatDoorX15
import Derived.Test.YtoijalagmmgkbaaGreatDoorX30
import Derived.Test.YtoijalagmmgkbaaGreatDoorX26
import Derived.Test.YtoijalagmmgkbaaGreatDoorX28
set_option linter.all false
set_option linter.defProp false
set_option maxRecDepth 1000000
namespace Go.Sx
open Go
open Int renaming ofNat->B,toNat->p_
open AV renaming int->z,bool->d_,az->f_,agg->j_,bK->l_
open Decidable renaming decide->a_
open Go.IntKind renaming i64->b_
open AH renaming blank->c_
open Nat renaming blt->e_,zero_add->k_,ble->m_,zero_le->o_,beq->r_
open List renaming take->g_,drop->h_,range->i_
noncomputable section
section
open Go.Sort Go.Shelf Go.Proofs
def oM(n)(K)(S)(i)(σ):bt.le σ (aX n K S i) (aX n K S i):=⟨⟨rfl,rfl,λ_ _=>Zy _ _ _⟩,rfl,rfl,rfl,rfl,rfl,rfl,rfl,rfl,trivial⟩
def eP(m n)(K)(S):an m (aX n K S) (aX n K S):=λi _ σ=>oM n K S i σ
def CX(q)(m n)(K e)(S f)(no)(i)(r)(c)(cE)(j)(a:Nat)(p:j=(a:Int))(ha:a<m)(s:m<=1000000)(t:0<=c j/\c j<=1000000)(g:bJ (S a 0) (S a 1)=true)(d:bJ (S r 2) (S r 3)=true)
  (k:bw (Zt (S a 0)) (Zt (S a 1)) (Zt (S r 2)) (Zt (S r 3))>0->c (j+1)=c j+1) (l :¬ bw (Zt (S a 0)) (Zt (S a 1)) (Zt (S r 2)) (Zt (S r 3))>0->c (j+1)=c j) (Q) (hQ:Q):
  kr [j8] [] 42 9001 15 (wP q m n K e S f no i r c) (λ_=>wQ q m n K e S f no i r cE) (λj=>j+1) Q j:=by
 rw[wR]
 have o:p_ j=a:=O
 have u:B m=(m:Int):=rfl
 rw[o]
 have b:aN b_ (j+1)=true:=aq O O
 refine Zg (λ_=>?_) O
 refine cC _ _ Y (cC _ _ (by rw[g,d];rfl) ?_)
 refine Zg (λh=>?_) λh=>?_
 ·have k1:=(k h).symm
  refine cC _ _ (aq O O) (cC _ _ b ?_)
  exact ZB
 ·have k1:=(l h).symm
  refine cC _ _ b ?_
  exact ZB
def Ju(q)(m n:Nat)(K a)(S b)(no)(i)(r)(c)(cE)(j)(d:j=(m:Int))(k1:c j=cE)(Q):
  kr [j8] [] 42 9001 15 (wP q m n K a S b no i r c) (λ_=>wQ q m n K a S b no i r cE) (λj=>j+1) Q j:=by
 rw[wR]
 have e:B m=(m:Int):=rfl
 have hQ:=trivial
 refine Zg O λ_=>?_
 exact ZB
def AZ(n)(K a:Nat->Nat->Int)(S b:Nat->Nat->List UInt8)(no r)(c:a no=K r)(d:b no=S r):an (no+1) (λi=>bif e_ i no then aX n a b i else g_ 9 (h_ (0+(i-no)*9) [.az n 1 (ae (K r)),.str (S r 0),.str (S r 1),.str (S r 2),.str (S r 3),.str [48],.str [49],.str [48],.str [49]])) (aX n a b):=λk f σ=>by
 show bt.le σ (bif e_ k no then aX n a b k else g_ 9 (h_ (0+(k-no)*9) (aX n K S r))) (aX n a b k)
 by_cases h:k<no
 ·rw[eV h];exact oM n a b k σ
 ·have:k=no:=by omega
  subst this
  rw[js h,show 0+(k-k)*9=0 by omega]
  have e:aX n a b k=aX n K S r:=by unfold aX;rw[c,d]
  rw[e]
  exact oM n K S r σ
def A0(q)(m n)(K b)(S d)(N)(no)(c)(cE)(i)(a:Nat)(hi:i=(a:Int))(ha:a<m)(o:m<=1000000)(hN:N i<=1000000)(hl:Zu PP II false (aD II 42 9001) 15 (wP q m n K b S d (N i) i a c 0) (wQ q m n K b S d (N i) i a cE))(c0:(0:Int)=c 0)
  (f:cE<q.top->N (i+1)=N i+1/\b (N i)=K a/\d (N i)=S a) (g :¬ cE<q.top->N (i+1)=N i) (Q) (hQ:Q):
  kr [j8] [(9001,15,wP q m n K b S d (N i) i i.toNat c 0,wQ q m n K b S d (N i) i i.toNat cE)] 42 5001 13 (SV q m n K b S d N) (λ_=>SX q n b d no) (λj=>j+1) Q i:=by
 rw[uh]
 have h:p_ i=a:=O
 have p:B m=(m:Int):=rfl
 rw[h]
 have e:aN b_ (i+1)=true:=aq O O
 have k:(a_ (N i<=N i)&&true&&true&&a_ ((N i+1)*152<=140737488355328)&&true)=true:=by rw[bW (dw (N i)),bW O];rfl
 refine Zg (λ_=>?_) O
 refine cC _ _ Y ?_
 by_cases hk:cE<q.top
 ·obtain⟨k1,k2,l⟩:=f hk
  have k1:=k1.symm
  have rows:=AZ n K b S d (N i) a k2 l
  repeat' (first|with_reducible refine Zf A ?_|with_reducible refine YG A ?_|with_reducible refine Zi A ?_|with_reducible refine And.intro ?_ ?_|with_reducible exact bL _ _|with_reducible exact bC _ _|with_reducible exact bO _ _|with_reducible exact eP _ _ _ _|with_reducible exact hQ|with_reducible exact hl|with_reducible refine Zf c0 ?_|with_reducible refine YG k1 ?_|with_reducible refine Zg (λ_=>?_) O|with_reducible refine cC _ _ e ?_|with_reducible refine cC _ _ k ?_|exact rows)
 ·have k1:=(g hk).symm
  repeat' (with_reducible first|refine Zf A ?_|refine YG A ?_|refine Zi A ?_|refine And.intro ?_ ?_|exact bL _ _|exact bC _ _|exact bO _ _|exact eP _ _ _ _|exact hQ|exact hl|refine Zf c0 ?_|refine YG k1 ?_|refine Zg O (λ_=>?_)|refine cC _ _ e ?_)
def Fq(q)(m n:Nat)(K a)(S b)(N)(no)(c)(cE)(i)(hi:i=(m:Int))(k1:N i=no)(Q):
  kr [j8] [(9001,15,wP q m n K a S b (N i) i i.toNat c 0,wQ q m n K a S b (N i) i i.toNat cE)] 42 5001 13 (SV q m n K a S b N) (λ_=>SX q n a b no) (λj=>j+1) Q i:=by
 rw[uh]
 have d:B m=(m:Int):=rfl
 have hQ:=trivial
 refine Zg O λ_=>?_
 repeat' (with_reducible first|refine Zf A ?_|refine YG A ?_|refine Zi A ?_|refine And.intro ?_ ?_|exact bL _ _|exact bC _ _|exact bO _ _|exact eP _ _ _ _|exact hQ|refine YG k1 ?_)
end
section
open Go.Sort Go.Shelf Go.Proofs
def eQ(p:Nat->Bool)(k j:Nat):Nat:=((i_ k).filter p).getD j 0
def wS{p k m}(a:m<k)(h:p m=true):eQ p k (aP p m)=m:=by
 unfold eQ aP
 obtain⟨r,rfl⟩:∃r,k=m+(r+1):=⟨k-m-1,O⟩
 rw[List.range_add,List.range_succ_eq_map,List.map_cons,List.filter_append,List.filter_cons,Nat.add_zero,h]
 simp
def xY(S:Nat->Nat->List UInt8)(i a:Nat):Bool:=a_ (bw (Zt (S a 0)) (Zt (S a 1)) (Zt (S i 2)) (Zt (S i 3))>0)
def cQ(q:Query)(m:Nat)(S:Nat->Nat->List UInt8)(i:Nat):Bool:=a_ (((aP (xY S i) m:Nat):Int)<q.top)
def uZ(m:Nat)(S:Nat->Nat->List UInt8):Prop := ∀i,i<m->bJ (S i 0) (S i 1)=true/\bJ (S i 2) (S i 3)=true
def Fs(q)(m n)(K a)(S b)(no)(i)(r)(l:r<m)(o:m<=1000000)(f:uZ m S):
  Zu PP II false (aD II 42 9001) 15 (wP q m n K a S b no i r (λj=>((aP (xY S r) j.toNat:Nat):Int)) 0) (wQ q m n K a S b no i r ((aP (xY S r) m:Nat):Int)):=by
 have key:=Zu.of (ι:=Nat) iw [j8] (bm PP II []) 1000 (c:=aD II 42 9001) (ir:=false) 15 (λj=>j<=m) (λj=>wP q m n K a S b no i r (λj=>((aP (xY S r) j.toNat:Nat):Int)) (j:Int)) (λ_=>wQ q m n K a S b no i r ((aP (xY S r) m:Nat):Int)) (λj=>m-j) (λj=>j+1) 0 A (o_ _) λj e=>?_
 ·exact key
 have e:j<=m:=e
 have g:((j:Int)).toNat=j:=O
 have k:((j:Int)+1).toNat=j+1:=O
 by_cases d:j<m
 ·have p:=jV (xY S r) j
  refine CX q m n K a S b no i r _ _ (j:Int) j A d o ?_ (f j d).1 (f r l).2 (λh=>?_) (λh=>?_) _ Y
  grind
  ·show((aP (xY S r) ((j:Int)+1).toNat:Nat):Int)=((aP (xY S r) ((j:Int)).toNat:Nat):Int)+1
   rw[g,k,iE (bW h)];rfl
  ·show((aP (xY S r) ((j:Int)+1).toNat:Nat):Int)=((aP (xY S r) ((j:Int)).toNat:Nat):Int)
   rw[g,k,kO (nZ h)]
 ·have e:j=m:=by omega
  subst e
  refine Ju q j n K a S b no i r _ _ (j:Int) A ?_ _
  rfl
def CY(q)(m n)(K)(S)(d:m<=1000000)(g:uZ m S):
  Zu PP II false (aD II 42 5001) 13 (SV q m n K (λj=>K (eQ (cQ q m S) m j)) S (λj=>S (eQ (cQ q m S) m j)) (λi=>aP (cQ q m S) i.toNat) 0) (SX q n (λj=>K (eQ (cQ q m S) m j)) (λj=>S (eQ (cQ q m S) m j)) (aP (cQ q m S) m)):=by
 have key:=Zu.Vk (ι:=Nat) iw [j8] 1000 (λi=>[(9001,15,wP q m n K (λj=>K (eQ (cQ q m S) m j)) S (λj=>S (eQ (cQ q m S) m j)) (aP (cQ q m S) ((i:Int)).toNat) (i:Int) ((i:Int)).toNat (λj=>((aP (xY S i) j.toNat:Nat):Int)) 0,wQ q m n K (λj=>K (eQ (cQ q m S) m j)) S (λj=>S (eQ (cQ q m S) m j)) (aP (cQ q m S) ((i:Int)).toNat) (i:Int) ((i:Int)).toNat ((aP (xY S i) m:Nat):Int))]) (c:=aD II 42 5001) (ir:=false) 13 (λi=>i<=m) (λi=>SV q m n K (λj=>K (eQ (cQ q m S) m j)) S (λj=>S (eQ (cQ q m S) m j)) (λi=>aP (cQ q m S) i.toNat) (i:Int)) (λ_=>SX q n (λj=>K (eQ (cQ q m S) m j)) (λj=>S (eQ (cQ q m S) m j)) (aP (cQ q m S) m)) (λi=>m-i) (λi=>i+1) 0 A (o_ _) λi hi=>?_
 ·exact key
 have hi:i<=m:=hi
 have e:((i:Int)).toNat=i:=O
 have f:((i:Int)+1).toNat=i+1:=O
 by_cases a:i<m
 ·have k:=jV (cQ q m S) i
  refine A0 q m n K _ S _ (λi=>aP (cQ q m S) i.toNat) _ (λj=>((aP (xY S i) j.toNat:Nat):Int)) _ (i:Int) i A a d ?_ ?_ A (λh=>?_) (λh=>?_) _ Y
  grind
  ·exact Fs q m n K _ S _ _ (i:Int) i a d g
  ·have b:cQ q m S i=true:=bW h
   show aP (cQ q m S) ((i:Int)+1).toNat=aP (cQ q m S) ((i:Int)).toNat+1/\K (eQ (cQ q m S) m (aP (cQ q m S) ((i:Int)).toNat))=K i/\S (eQ (cQ q m S) m (aP (cQ q m S) ((i:Int)).toNat))=S i
   rw[e,f,iE b,wS a b]
   simp
  ·have b:cQ q m S i=false:=nZ h
   show aP (cQ q m S) ((i:Int)+1).toNat=aP (cQ q m S) ((i:Int)).toNat
   rw[e,f,kO b]
 ·have hi:i=m:=by omega
  subst hi
  refine Fq q i n K _ S _ (λj=>aP (cQ q i S) j.toNat) _ _ _ (i:Int) A ?_ _
  rfl
def ju(q:Query)(m:Nat)(S:Nat->Nat->List UInt8):Nat:=if q.top=0 then m else aP (cQ q m S) m
def cS(q:Query)(m:Nat)(S:Nat->Nat->List UInt8)(j:Nat):Nat:=if q.top=0 then j else eQ (cQ q m S) m j
def QH(m n)(K)(S):((i_ m).all λi=>bt.free (aX n K S i))=true:=List.all_eq_true.2 λ_ _=>rfl
def Us{q m n K S}(b:m<=1000000)(c:uZ m S):
  af PP II 42 [.agg (aY q),.az m 9 (aX n K S)] HP (.ret (.az (ju q m S) 9 (aX n (λj=>K (cS q m S j)) λj=>S (cS q m S j))) HP):=by
 refine kz (ks:=[j8]) (T:=[(5001,13,SV q m n K (λj=>K (eQ (cQ q m S) m j)) S (λj=>S (eQ (cQ q m S) m j)) (λi=>aP (cQ q m S) i.toNat) 0,SX q n (λj=>K (eQ (cQ q m S) m j)) (λj=>S (eQ (cQ q m S) m j)) (aP (cQ q m S) m))]) ?_
 rw[Uq]
 have a:aP (cQ q m S) (0:Int).toNat=0:=rfl
 have lp:=CY q m n K S b c
 refine Zg (λh=>?_) λh=>?_
 ·intro σ
  unfold ju cS
  simp only[if_pos h]
  exact⟨rfl,rfl,λi hi=>oM n K S i σ⟩
 ·have hQ:∀σ,AV.le σ (.az (aP (cQ q m S) m) 9 (aX n (λj=>K (eQ (cQ q m S) m j)) λj=>S (eQ (cQ q m S) m j))) (.az (ju q m S) 9 (aX n (λj=>K (cS q m S j)) λj=>S (cS q m S j))):=λσ=>by
   unfold ju cS
   simp only[if_neg h]
   exact⟨rfl,rfl,λi hi=>oM _ _ _ i σ⟩
  refine⟨lp,YG a (YG A ⟨bC _ _,YG A ⟨bO _ _,Zf A (Zf A (Zi A (Zi A (Zf A (YG A ⟨eP _ _ _ _,YG A ⟨eP _ _ _ _,YG a (Zf A (cC _ _ (by rw[QH,bW (dw _)];rfl) hQ))⟩⟩)))))⟩⟩)⟩
end
section
open Go.Sort Go.Shelf Go.Proofs
def QJ(n:Nat)(cs:List AV):Bool:=match cs with
 |[.az k 1 f,.str _,.str _,.str _,.str _,.str [48],.str [49],.str [48],.str [49]]=>r_ k n&&bA n f
 |_=>false
def wT(n m:Nat)(r:Nat->List AV):Bool:=(i_ m).all λi=>QJ n (r i)
def CZ(r:Nat->List AV)(i k:Nat):Int:=match r i with| .az _ _ f::_=>aM f k|_=>0
def nV(r:Nat->List AV)(i k:Nat):List UInt8:=match(r i).getD (k+1) .any with| .str s=>s|_=>[]
def G4{n r i}(h:QJ n (r i)=true)(σ):bt.le σ (r i) (aX n (CZ r) (nV r) i):=by
 unfold QJ at h
 split at h
 ·rename_i k f a b c d e
  simp only[bf]at h
  obtain⟨g,l⟩:=h
  cases dE g
  unfold aX CZ nV
  rw[e]
  exact⟨⟨rfl,rfl,λj m=>by rw[kZ l j m];exact Zy _ _ _⟩,rfl,rfl,rfl,rfl,rfl,rfl,rfl,rfl,trivial⟩
 ·cases h
def C0{n m r}(h:wT n m r=true):AV.le (λl=>l) (.az m 9 r) (.az m 9 (aX n (CZ r) (nV r))):=⟨rfl,rfl,λi hi=>G4 (List.all_eq_true.1 h i (List.mem_range.2 hi)) _⟩
def ZK(n m)(K)(S):wT n m (aX n K S)=true:=List.all_eq_true.2 λi _=>by
 show(r_ n n&&bA n (ae (K i)))=true
 rw[ni,dy];rfl
def Ft(m:Nat)(S:Nat->Nat->List UInt8):Bool:=(i_ m).all λi=>bJ (S i 0) (S i 1)&&bJ (S i 2) (S i 3)
def QK{m S}(h:Ft m S=true):uZ m S:=λi hi=>by
 have:=List.all_eq_true.1 h i (List.mem_range.2 hi)
 grind
def WZ:aC PP II:=aC.l8 42
 (λX args b=>match args with
  |[.agg cs,.az m 9 r]=>match toQ cs with
   |some q=>X.ak (gn cs&&wT q.ng m r&&Ft m (nV r)&&m_ m 1000000) (b (.az (ju q m (nV r)) 9 (aX q.ng (λj=>CZ r (cS q m (nV r) j)) λj=>nV r (cS q m (nV r) j))))
   |none=>X.fail
  |_=>X.fail)
 λX sem hX args b h=>by
  split at h
  ·split at h
   ·rename_i q c
    obtain⟨a,d⟩:=hX.ak _ _ h
    simp only[bf]at a
    refine⟨_,d,λ_=>rfl,λσ=>?_,af.dA (Us (n:=q.ng) (K:=CZ _) ZD (QK a.1.2)) (toQ_le c a.1.1.1) (C0 a.1.1.2)⟩
    show [AV.bD σ (.agg _),_]=_
    rw[nU c];rfl
   ·exact zR
  ·exact zR
end
def AH.A1(H:AH)(b)(l):(H.new b).get l=if l=H.n then b else H.get l:=by
 simp only[AH.new,AH.get,Tr.bH]
 grind
def af.fresh{P I f args}{a:Nat->AV}{b}(h:af P I f args (c_ I.G) (.ret (a I.G) ((c_ I.G).new b)))(d:∀σ,bt.bD σ args=args)(ha:∀σ n,(a n).bD σ=a (σ n))(y:∀σ,b.bD σ=b)(H):
  af P I f args H (.ret (a H.n) (H.new b)):=by
 intro c ρ w vs hG q i
 have s:I.G<=H.n:=by
  rw[<-hG]
  refine Nat.le_of_not_lt λj=>?_
  obtain⟨N,hN⟩:=i.fp H.n j
  rw[i.top _ (dw _)]at hN;cases hN
 have t:∀l,(c_ I.G).get l= .dead:=λl=>rfl
 let σ:Nat->Nat:=λl=>if l<I.G then l else H.n+(l-I.G)
 have u:Sub I.G σ (c_ I.G) H :=
  {lt:=λl hl=>by
    have:l<I.G:=hl
    grind
   ge:=λl hl=>by
    have :¬ l<I.G:=Nat.not_lt.2 hl
    simp only[σ,if_neg this];rfl
   same:=Y
   inj:=Y
   fp:=λg v=>⟨v,Y⟩
   low:=λl _=>t l}
 have m:(c_ I.G).n=I.G:=rfl
 have ht:Eb σ (c_ I.G) (CO.ret (a I.G) ((c_ I.G).new b)).heap H (H.new b):=
  {n:=by show H.n+1=H.n+(I.G+1-I.G);omega
   old:=Y
   new:=λl hl=>by
    have hl:I.G<=l:=hl
    have o :¬ l<I.G:=Nat.not_lt.2 hl
    show(H.new b).get (σ l)=(((c_ I.G).new b).get l).bD σ
    rw[AH.A1,AH.A1,m]
    simp only[σ,if_neg o]
    by_cases e:l=I.G
    grind
    ·rw[if_neg O,if_neg e,i.low _ O]
     rfl
   rest:=λl hl _=>by
    rw[AH.A1,if_neg O]}
 have:=h.lift u ht
 rw[d]at this
 have e:(CO.ret (a I.G) ((c_ I.G).new b)).iT σ (H.new b)= .ret (a H.n) (H.new b):=by
  show CO.ret ((a I.G).bD σ) (H.new b)=_
  rw[ha]
  have:σ I.G=H.n:=by simp only[σ,if_neg (HD _)];omega
  rw[this]
 rw[e]at this
 exact this c ρ w vs hG q i
def aC.fresh{P:Program}{I:ba}(f:FuncId)(spec:{R:Type}->RI R->List AV->((Nat->AV)->Zv->R)->R)
  (ok:∀{R:Type}(X:RI R)(sem:R->Prop),X.Ok sem->∀args d,sem (spec X args d)->∃a b,sem (d a b)/\(∀σ n,(a n).bD σ=a (σ n))/\(∀σ,b.bD σ=b)/\(∀σ,bt.bD σ args=args)/\af P I f args (c_ I.G) (.ret (a I.G) ((c_ I.G).new b))):aC P I where
 f:=f
 spec X args H d _:=jK X 100000 args H λc H'=>spec X c λa b=>d (a H'.n) (H'.new b)
 ok X sem hX args H d kp h:=by
  obtain⟨c,H',i,j⟩:=gC hX _ _ _ _ h
  obtain⟨a,b,k1,k2,l,m,o⟩:=ok X sem hX _ _ i
  exact⟨.ret (a H'.n) (H'.new b),k1,(o.fresh m k2 l H').nI j⟩
def Jw(n)(C):(jE ([]:List (aC PP II)) (mG PP II []) 1000 146 [.az n 3 (au C)] (c_ 12) (λb H=>qa 12 b H (.own 12 n 3) ((c_ 12).new (.rows n 3 (au C) (.ty 79))) True) (λ_ _=>False))=(aa (e_ 0 n) (aa (a_ ((0+n)*24<=140737488355328)&&true) (ah (a_ (n=0)) (ax n 0 False) (ax (0+n) n (an (0+n) (λi=>bif e_ i 0 then g_ 3 (h_ (0+i*3) [])else au C (i-0)) (au C)/\ax (0+n) n True))))):=U
def Jx{n C}(a:0<n)(b:n<=1000):af PP II 146 [.az n 3 (au C)] (c_ 12) (.ret (.own 12 n 3) ((c_ 12).new (.rows n 3 (au C) (.ty 79)))):=by
 refine af.GX iw [] (bm PP II []) 1000 A ((Jw n C).mpr (Ze (eV a) (Ze Y (Zh (λh=>?_) λh=>?_))))
 grind
 ·refine YG (k_ n) ⟨λi hi σ=>?_,YG (k_ n) trivial⟩
  show bt.le σ (bif e_ i 0 then g_ 3 (h_ (0+i*3) [])else au C (i-0)) (au C i)
  rw[js (lZ i),Nat.sub_zero]
  exact bC n C i O σ
def G5:aC PP II:=aC.fresh 146
 (λX args b=>match args with
  |[.az n 3 f]=>X.ak (aI 3 n f&&e_ 0 n&&m_ n 1000) (b (λl=> .own l n 3) (.rows n 3 (au (bG f)) (.ty 79)))
  |_=>X.fail)
 λX sem hX args b h=>by
  split at h
  ·rename_i n f
   obtain⟨a,c⟩:=hX.ak _ _ h
   simp only[bf,Nat.blt_eq]at a
   refine⟨_,_,c,λ_ _=>rfl,λ_=>rfl,λ_=>rfl,(Jx a.1.2 ZD).dq ⟨⟨rfl,rfl,λi hi=>?_⟩,trivial⟩⟩
   rw[(nP (c7 a.1.1 hi)).1];exact jq (bG f) _ i
  ·exact zR
def cY(q:Query)(x:ay)(j k:Nat):Int:=if j<q.nw then q.C j k else if k=2 then(if j=q.nw then x.l else x.h)else 0
def QM(q:Query)(x:ay)(n:Nat)(a:List (Nat×Zv)):AH:={n:=n,t:=Tr.ofList ([(0,.cells [.az 5 2 aA] .ro),(12,.cells (aY q) (.ty 32)),(13,.cells (aF x) (.ty 48)),(14,.cells [.int b_ 0,.int b_ 0,.bool false] (.ty 99))]++a)}
def t100(c:Bool)(a:List (Nat×AV)):Tr AV:=Tr.ofList ([(2,.ptr 12 0 0 0),(3,.ptr 13 0 0 0),(4,.ptr 14 0 0 0),(6,.bool c)]++a)
def C1(q:Query)(x:ay)(c:Bool)(D:Nat->Nat->Int)(N:Int->Nat)(V:Nat->Int)(i:Int):St:={t:=t100 c [(11,.own 36 (N i) 1),(44,.own 35 (q.nw+2) 3),(45,.int b_ (B (q.nw+2))),(46,.int b_ i)],nt:=102,H:=QM q x 37 [(35,.rows (q.nw+2) 3 (au D) (.ty 79)),(36,.rows (N i) 1 (ae V) (.ty 3))],df:=[]}
def xZ(q:Query)(x:ay)(c:Bool)(n:Nat)(V:Nat->Int):GE:=.one (.x 0 {t:=t100 c [(11,.own 36 n 1)],nt:=102,H:=QM q x 37 [(36,.rows n 1 (ae V) (.ty 3))],df:=[]})
def oN(q:Query)(x:ay)(c:Bool)(D:Nat->Nat->Int)(N:Int->Nat)(V:Nat->Int)(i a j:Int):St:={t:=t100 c [(11,.own 39 (N j) 1),(44,.own 35 (q.nw+2) 3),(45,.int b_ (B (q.nw+2))),(46,.int b_ i),(58,.slice 38 0 0 3 (some 3) 1),(59,.int b_ 3),(60,.int b_ j)],nt:=102,H:=QM q x 40 [(35,.rows (q.nw+2) 3 (au D) (.ty 79)),(38,.rows 3 1 (ae λk=>a-1+B k) (.ty 3)),(39,.rows (N j) 1 (ae V) (.ty 3))],df:=[]}
def mV(q:Query)(x:ay)(c:Bool)(D:Nat->Nat->Int)(n:Nat)(V:Nat->Int)(i:Int):GE:=.one (.x 2 {t:=t100 c [(11,.own 39 n 1),(44,.own 35 (q.nw+2) 3),(45,.int b_ (B (q.nw+2))),(46,.int b_ i)],nt:=102,H:=QM q x 40 [(35,.rows (q.nw+2) 3 (au D) (.ty 79)),(39,.rows n 1 (ae V) (.ty 3))],df:=[]})
def RH(q)(x)(c)(D)(N)(V)(n)(i f j)(Q){e}(g:e=(ae λk=>f-1+B k)):(kr [mg] [] 92 11001 39 (oN q x c D N V i f) (λ_=>mV q x c D n V i) (λj=>j+1) Q j)=(ah (a_ (j<3)) (aa (a_ (0<=j)&&a_ (j<3)) (aa (a_ (0+j.toNat<3)) (aa (gn [f_ q.nw 3 (au q.C),f_ q.ng 1 (aR q.G),z b_ q.a,z b_ q.fl,AV.str q.nu,AV.str q.de,z b_ q.top]&&eU {nw:=q.nw,C:=λj k=>bV (au q.C j) k,ng:=q.ng,G:=λj=>q.G j,a:=q.a,fl:=q.fl,nu:=q.nu,de:=q.de,top:=q.top}&&bB x) (ah (a_ ((match xG x (f-1+B (0+j.toNat))with|true=>((0):Int)|false=>190)=0)) (ah (xG x (f-1+B (0+j.toNat))&&dV {nw:=q.nw,C:=λj k=>bV (au q.C j) k,ng:=q.ng,G:=λj=>q.G j,a:=q.a,fl:=q.fl,nu:=q.nu,de:=q.de,top:=q.top} x (f-1+B (0+j.toNat))) (aa (a_ (N j<=N j)&&true&&true&&a_ ((N j+1)*8<=140737488355328)&&true) (aa (aN b_ (j+1)) (ax (N j+1) (N (j+1)) (an (N j+1) (λi=>bif e_ i (N j)then ae V i else g_ 1 (h_ (0+(i-N j)*1) [z b_ (f-1+B (0+j.toNat))])) (ae V)/\zyR 3 e (zyN (q.nw+2) (zyR (q.nw+2) (au D) (false=false/\zyI x.t (zyI x.s (zyI x.v (zyI x.w (zyI x.o (zyI x.p (zyI x.d (zyI x.l (zyI x.h (zyI x.b (zyN q.nw (zyR q.nw (au q.C) (zyN q.ng (zyR q.ng (aR q.G) (zyI q.a (zyI q.fl (zyB q.nu (zyB q.de (zyI q.top (zyR 5 aA (ax (N j+1) (N (j+1)) (zyI (B (q.nw+2)) (zyN (q.nw+2) (zyI (j+1) (c=c/\zyI i Q))))))))))))))))))))))))))))))) (aa (aN b_ (j+1)) (ax (N j) (N (j+1)) (zyR (N j) (ae V) (zyR 3 e (zyN (q.nw+2) (zyR (q.nw+2) (au D) (false=false/\zyI x.t (zyI x.s (zyI x.v (zyI x.w (zyI x.o (zyI x.p (zyI x.d (zyI x.l (zyI x.h (zyI x.b (zyN q.nw (zyR q.nw (au q.C) (zyN q.ng (zyR q.ng (aR q.G) (zyI q.a (zyI q.fl (zyB q.nu (zyB q.de (zyI q.top (zyR 5 aA (ax (N j) (N (j+1)) (zyI (B (q.nw+2)) (zyN (q.nw+2) (zyI (j+1) (c=c/\zyI i Q)))))))))))))))))))))))))))))))) (aa (aN b_ (j+1)) (ax (N j) (N (j+1)) (zyR (N j) (ae V) (zyR 3 e (zyN (q.nw+2) (zyR (q.nw+2) (au D) (false=false/\zyI x.t (zyI x.s (zyI x.v (zyI x.w (zyI x.o (zyI x.p (zyI x.d (zyI x.l (zyI x.h (zyI x.b (zyN q.nw (zyR q.nw (au q.C) (zyN q.ng (zyR q.ng (aR q.G) (zyI q.a (zyI q.fl (zyB q.nu (zyB q.de (zyI q.top (zyR 5 aA (ax (N j) (N (j+1)) (zyI (B (q.nw+2)) (zyN (q.nw+2) (zyI (j+1) (c=c/\zyI i Q))))))))))))))))))))))))))))))))))) (ax (N j) n (zyR (N j) (ae V) (zyN (q.nw+2) (zyR (q.nw+2) (au D) (false=false/\zyI x.t (zyI x.s (zyI x.v (zyI x.w (zyI x.o (zyI x.p (zyI x.d (zyI x.l (zyI x.h (zyI x.b (zyN q.nw (zyR q.nw (au q.C) (zyN q.ng (zyR q.ng (aR q.G) (zyI q.a (zyI q.fl (zyB q.nu (zyB q.de (zyI q.top (zyR 5 aA (ax (N j) n (zyI (B (q.nw+2)) (zyN (q.nw+2) (c=c/\zyI i True))))))))))))))))))))))))))))):=by subst_vars;kernel_rfl
def wU(q)(x)(c)(D)(N)(f)(V)(n e)(i)(Q):(kr [mg] [(11001,39,oN q x c D f V i (D i.toNat 2) 0,mV q x c D e V i)] 92 8001 36 (C1 q x c D N V) (λ_=>xZ q x c n V) (λj=>j+1) Q i)=(ah (a_ (i<B (q.nw+2))) (aa (a_ (0<=i)&&a_ (i<B (q.nw+2))) (aa (a_ (i.toNat<q.nw+2)) (aa (aN b_ (D i.toNat 2-1)) (aa (aN b_ (D i.toNat 2+1)) (Zu PP II false (aD II 92 11001) 39 (oN q x c D f V i (D i.toNat 2) 0) (mV q x c D e V i)/\ax (N i) (f 0) (zyR (N i) (ae V) (an 3 (fW [z b_ (D i.toNat 2-1),z b_ (D i.toNat 2),z b_ (D i.toNat 2+1)] 1) (ae λk=>D i.toNat 2-1+B k)/\zyN (q.nw+2) (zyR (q.nw+2) (au D) (false=false/\zyI x.t (zyI x.s (zyI x.v (zyI x.w (zyI x.o (zyI x.p (zyI x.d (zyI x.l (zyI x.h (zyI x.b (zyN q.nw (zyR q.nw (au q.C) (zyN q.ng (zyR q.ng (aR q.G) (zyI q.a (zyI q.fl (zyB q.nu (zyB q.de (zyI q.top (zyR 5 aA (ax (N i) (f 0) (zyI (B (q.nw+2)) (zyN (q.nw+2) (c=c/\zyI i (aa (aN b_ (i+1)) (ax e (N (i+1)) (zyR e (ae V) (zyN (q.nw+2) (zyR (q.nw+2) (au D) (false=false/\zyI x.t (zyI x.s (zyI x.v (zyI x.w (zyI x.o (zyI x.p (zyI x.d (zyI x.l (zyI x.h (zyI x.b (zyN q.nw (zyR q.nw (au q.C) (zyN q.ng (zyR q.ng (aR q.G) (zyI q.a (zyI q.fl (zyB q.nu (zyB q.de (zyI q.top (zyR 5 aA (ax e (N (i+1)) (zyI (B (q.nw+2)) (zyN (q.nw+2) (c=c/\zyI (i+1) Q))))))))))))))))))))))))))))))))))))))))))))))))))))))))))))) (ax (N i) n (zyR (N i) (ae V) (false=false/\zyI x.t (zyI x.s (zyI x.v (zyI x.w (zyI x.o (zyI x.p (zyI x.d (zyI x.l (zyI x.h (zyI x.b (zyN q.nw (zyR q.nw (au q.C) (zyN q.ng (zyR q.ng (aR q.G) (zyI q.a (zyI q.fl (zyB q.nu (zyB q.de (zyI q.top (zyR 5 aA (ax (N i) n (c=c/\True))))))))))))))))))))))))):=U
def ND(q)(x)(c)(D)(N)(V)(n)(Q){e}(k:e=(jA {nw:=q.nw,C:=bG (au q.C),ng:=q.ng,G:=λj=>q.G j,a:=q.a,fl:=q.fl,nu:=q.nu,de:=q.de,top:=q.top} x)){f}(m:f=(List.all (List.range.loop n []) λi=>true)){g}(r:g=(f&&m_ n 1000000000000&&e_ 0 n)):(ko [WV,mg,G5,SJ,Mo] [(8001,36,C1 q x c D N V 0,xZ q x c n V)] 92 [.agg (aY q),.agg (aF x)] Q)=(aa (aI 3 q.nw (au q.C)&&aI 1 q.ng (aR q.G)) (aa (eU {nw:=q.nw,C:=bG (au q.C),ng:=q.ng,G:=λj=>q.G j,a:=q.a,fl:=q.fl,nu:=q.nu,de:=q.de,top:=q.top}) (aa (bB x) (ah (!gk {nw:=q.nw,C:=bG (au q.C),ng:=q.ng,G:=λj=>q.G j,a:=q.a,fl:=q.fl,nu:=q.nu,de:=q.de,top:=q.top} x) (Zv.cells [f_ 5 2 aA] Access.ro=Zv.cells [f_ 5 2 aA] Access.ro/\Q (l_ [j_ [z b_ 0,z b_ 0,d_ false],d_ false])) (ah (!jA {nw:=q.nw,C:=bG (au q.C),ng:=q.ng,G:=λj=>q.G j,a:=q.a,fl:=q.fl,nu:=q.nu,de:=q.de,top:=q.top} x) (aa (aI 3 q.nw (au q.C)&&e_ 0 q.nw&&m_ q.nw 1000) (aa (a_ (x.l=x.l)) (aa (a_ (x.h=x.h)) (aa (a_ (q.nw<=q.nw)&&true&&true&&a_ ((q.nw+2)*24<=140737488355328)&&true) (Zu PP II false (aD II 92 8001) 36 (C1 q x c D N V 0) (xZ q x c n V)/\ax (N 0) 0 (zyN (q.nw+2) (an (q.nw+2) (λi=>bif e_ i q.nw then au (bG (au q.C)) i else g_ 3 (h_ (0+(i-q.nw)*3) [z b_ 0,z b_ 0,z b_ x.l,z b_ 0,z b_ 0,z b_ x.h])) (au D)/\false=false/\zyI x.t (zyI x.s (zyI x.v (zyI x.w (zyI x.o (zyI x.p (zyI x.d (zyI x.l (zyI x.h (zyI x.b (zyN q.nw (zyR q.nw (au q.C) (zyN q.ng (zyR q.ng (aR q.G) (zyI q.a (zyI q.fl (zyB q.nu (zyB q.de (zyI q.top (zyR 5 aA (ax (N 0) 0 (zyI (B (q.nw+2)) (zyN (q.nw+2) (jA {nw:=q.nw,C:=bG (au q.C),ng:=q.ng,G:=λj=>q.G j,a:=q.a,fl:=q.fl,nu:=q.nu,de:=q.de,top:=q.top} x=c/\aa (f&&a_ (n<=n)) (aa g (aa (f&&a_ (n<=n)) (aa g (ah (a_ (q.a=1)) (Zv.cells [f_ 5 2 aA] Access.ro=Zv.cells [f_ 5 2 aA] Access.ro/\Q (l_ [j_ [z b_ 1,z b_ 1,d_ c],d_ true])) (ah (a_ (q.fl=7)) (Zv.cells [f_ 5 2 aA] Access.ro=Zv.cells [f_ 5 2 aA] Access.ro/\Q (l_ [j_ [z b_ x.b,z b_ x.b,d_ c],d_ true])) (Zv.cells [f_ 5 2 aA] Access.ro=Zv.cells [f_ 5 2 aA] Access.ro/\Q (l_ [j_ [z b_ (jc (λi=>V i) n),z b_ (cG (λi=>V i) n),d_ c],d_ true]))))))))))))))))))))))))))))))))))))) (ah (a_ (q.a=1)) (Zv.cells [f_ 5 2 aA] Access.ro=Zv.cells [f_ 5 2 aA] Access.ro/\Q (l_ [j_ [z b_ 1,z b_ 1,d_ e],d_ true])) (ah (a_ (q.fl=7)) (Zv.cells [f_ 5 2 aA] Access.ro=Zv.cells [f_ 5 2 aA] Access.ro/\Q (l_ [j_ [z b_ x.b,z b_ x.b,d_ e],d_ true])) (Zv.cells [f_ 5 2 aA] Access.ro=Zv.cells [f_ 5 2 aA] Access.ro/\Q (l_ [j_ [z b_ x.l,z b_ x.h,d_ e],d_ true]))))))))):=by subst_vars;kernel_rfl
def ya{cs:List AV}{n e:Nat}(a:0<e)(hl:cs.length=n*e):rowsOf n (fW cs e)=cs:=by
 have:=iP (cs:=cs) (o:=0) a (n:=n) O
 simp only[k_,List.drop_zero]at this
 unfold fW
 rw[this,<-hl,List.take_length]
def Rel.cut{c:zS}{ρ:Env}{H:AH}{w:World}{b n e t:Nat}{cs:List AV}(h:Rel c ρ H w)(o:H.get b= .cells cs (.ty t))(hl:cs.length=n*e)(y:0<e):Rel c ρ (H.set b (.rows n e (fW cs e) (.ty t))) w:=by
 have gs:∀l,(H.set b (.rows n e (fW cs e) (.ty t))).get l=if l=b then .rows n e (fW cs e) (.ty t)else H.get l:=λl=>AH.bH H b l _
 have f:∀l,((H.set b (.rows n e (fW cs e) (.ty t))).get l).rw=(H.get l).rw:=λl=>by
  rw[gs]
  by_cases a:l=b
  ·rw[if_pos a,a,o];rfl
  ·rw[if_neg a]
 have C:∀l,(H.set b (.rows n e (fW cs e) (.ty t))).get l≠ .dead->H.get l≠ .dead:=λl=>by
  rw[gs]
  by_cases a:l=b
  ·rw[if_pos a,a,o];exactλ_ D=>by cases D
  ·rw[if_neg a];exact id
 have m:∀l,H.get l= .dead->(H.set b (.rows n e (fW cs e) (.ty t))).get l= .dead:=λl hl=>by
  rw[gs]
  by_cases a:l=b
  ·rw[a,o]at hl;cases hl
  ·rw[if_neg a];exact hl
 refine⟨λl=>?_,λl u r N E q d j F=>?_,λl r N d j=>?_,h.gH,h.size,h.os,h.output,h.tape,h.top,h.fp,λl r N s j=>h.hid l r N (C l s) j,h.env,λl hl=>m l (h.low l hl),h.qY,λl r N d j=>?_,h.ZN,h.qZ⟩
 ·rw[gs]
  by_cases a:l=b
  ·subst a
   rw[if_pos A]
   have v:=h.dF l
   rw[o]at v
   refine⟨λi hi=>?_,?_⟩
   ·simp only[fW,List.length_take,List.length_drop]
    have:i*e+e<=n*e:=by
     have:=Nat.mul_le_mul_right e (show i+1<=n from hi)
     rw[Nat.add_mul,Nat.one_mul]at this;exact this
    omega
   ·rw[ya y hl];exact v
  ·rw[if_neg a];exact h.dF l
 ·rw[f]at d
  exact m u (h.sep l u r N E q d j F)
 ·rw[f]at d;exact h.gL l r N d j
 ·rw[f]at d;exact h.pV l r N d j
def af.cut{f:FuncId}{args:List AV}{H H1 H':AH}{a:AV}{d n e t:Nat}{cs:List AV}(j:H.get d= .cells cs (.ty t))(hl:cs.length=n*e)(l:0<e)
  (h:af PP II f args (H.set d (.rows n e (fW cs e) (.ty t))) (.ret a H1)) (m:H'.n=H1.n) (o:∀i,H'.get i=H1.get i):af PP II f args H (.ret a H'):=by
 intro c ρ w vs hG q s
 have post:∀e w',(CO.ret a H1).post c ρ e w'->(CO.ret a H').post c ρ e w':=λe w' b=>by
  cases e with
  |returned v=>obtain⟨ρ',k1,k2,u⟩:=b;exact⟨ρ',k1,k2.congr m o,u⟩
  |panicked y=>exact b.elim
  |outgrown=>exact b.elim
 rcases h c ρ w vs hG q (s.cut j hl l)with⟨k1,k2⟩|⟨v,w',k1,k2⟩
 ·exact .inl ⟨k1,k2.mono λe w'=>post e w'⟩
 ·exact .inr ⟨v,w',k1,post _ _ k2⟩
end
end Go.Sx
