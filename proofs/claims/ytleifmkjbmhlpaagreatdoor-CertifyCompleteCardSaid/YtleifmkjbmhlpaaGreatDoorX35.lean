/- The proof of a statement of the seat, part 35. -/
import Derived.Test.YtleifmkjbmhlpaaGreatDoorX34
import Derived.Test.YtleifmkjbmhlpaaGreatDoorX30
import Derived.Test.YtleifmkjbmhlpaaGreatDoorX14
set_option linter.all false
set_option linter.defProp false
set_option maxRecDepth 1000000
namespace Go.Sx
open Go
open Int renaming ofNat->M,toNat->j_
open Decidable renaming decide->z
open List renaming range->a_,beq->c_,take->h_,drop->i_
open Nat renaming zero_le->b_,beq->e_,ble->g_,blt->l_
noncomputable section
section
open Go.Sort Go.Shelf Go.Proofs
def rh(n)(K)(S)(i)(σ):bj.le σ (br n K S i) (br n K S i):=⟨⟨rfl,rfl,λ_ _=>gw _ _ _⟩,rfl,rfl,rfl,rfl,rfl,rfl,rfl,rfl,trivial⟩
def ln(m n)(K)(S):an m (br n K S) (br n K S):=λi _ σ=>rh n K S i σ
def Gj(q)(m n)(K e)(S f)(no)(i)(r)(c)(cE)(j)(a:Nat)(p:j=(a:Int))(ha:a<m)(s:m<=1000000)(t:0<=c j/\c j<=1000000)(g:bX (S a 0) (S a 1)=true)(d:bX (S r 2) (S r 3)=true)
  (k:bO (aw (S a 0)) (aw (S a 1)) (aw (S r 2)) (aw (S r 3))>0->c (j+1)=c j+1) (l :¬ bO (aw (S a 0)) (aw (S a 1)) (aw (S r 2)) (aw (S r 3))>0->c (j+1)=c j) (Q) (hQ:Q):
  kr [qp] [] 65 9001 15 (Ae q m n K e S f no i r c) (λ_=>Af q m n K e S f no i r cE) (λj=>j+1) Q j:=by
 rw[Ag];have o:j_ j=a:=O;have u:M m=(m:Int):=rfl;rw[o];have b:aJ .i64 (j+1)=true:=ai O O;refine aaA (λ_=>?_) O;refine ZE _ _ Y (ZE _ _ (by rw[g,d];rfl) ?_);refine aaA (λh=>?_) λh=>?_
 ·have k1:=(k h).symm;refine ZE _ _ (ai O O) (ZE _ _ b ?_);exact ZB
 ·have k1:=(l h).symm;refine ZE _ _ b ?_;exact ZB
def N3(q)(m n:Nat)(K a)(S b)(no)(i)(r)(c)(cE)(j)(d:j=(m:Int))(k1:c j=cE)(Q):
  kr [qp] [] 65 9001 15 (Ae q m n K a S b no i r c) (λ_=>Af q m n K a S b no i r cE) (λj=>j+1) Q j:=by
 rw[Ag];have e:M m=(m:Int):=rfl;have hQ:=trivial;refine aaA O λ_=>?_
 exact ZB
def K6(n)(K a:Nat->Nat->Int)(S b:Nat->Nat->List UInt8)(no r)(c:a no=K r)(d:b no=S r):an (no+1) (λi=>bif l_ i no then br n a b i else h_ 9 (i_ (0+(i-no)*9) [.ae n 1 (ah (K r)),.str (S r 0),.str (S r 1),.str (S r 2),.str (S r 3),.str [48],.str [49],.str [48],.str [49]])) (br n a b):=λk f σ=>by
 show bj.le σ (bif l_ k no then br n a b k else h_ 9 (i_ (0+(k-no)*9) (br n K S r))) (br n a b k);by_cases h:k<no
 ·rw[gj h];exact rh n a b k σ
 ·have:k=no:=by omega
  subst this;rw[lR h,show 0+(k-k)*9=0 by omega];have e:br n a b k=br n K S r:=by unfold br;rw[c,d]
  rw[e];exact rh n K S r σ
def DZ(q)(m n)(K b)(S d)(N)(no)(c)(cE)(i)(a:Nat)(hi:i=(a:Int))(ha:a<m)(o:m<=1000000)(p:N i<=1000000)(hl:ay PP II false (az II 65 9001) 15 (Ae q m n K b S d (N i) i a c 0) (Af q m n K b S d (N i) i a cE))(c0:(0:Int)=c 0)
  (f:cE<q.top->N (i+1)=N i+1/\b (N i)=K a/\d (N i)=S a) (g :¬ cE<q.top->N (i+1)=N i) (Q) (hQ:Q):
  kr [qp] [(9001,15,Ae q m n K b S d (N i) i i.toNat c 0,Af q m n K b S d (N i) i i.toNat cE)] 65 5001 13 (W9 q m n K b S d N) (λ_=>Xa q n b d no) (λj=>j+1) Q i:=by
 rw[wP];have h:j_ i=a:=O;have r:M m=(m:Int):=rfl;rw[h];have e:aJ .i64 (i+1)=true:=ai O O;have k:(z (N i<=N i)&&true&&true&&z ((N i+1)*152<=140737488355328)&&true)=true:=by rw[bK (dP (N i)),bK O];rfl
 refine aaA (λ_=>?_) O;refine ZE _ _ Y ?_;by_cases hk:cE<q.top
 ·obtain⟨k1,k2,l⟩:=f hk;have k1:=k1.symm;have rows:=K6 n K b S d (N i) a k2 l
  repeat' (first|with_reducible refine aag A ?_|with_reducible refine aan A ?_|with_reducible refine aaY A ?_|with_reducible refine And.intro ?_ ?_|with_reducible exact gW _ _|with_reducible exact cM _ _|with_reducible exact dJ _ _|with_reducible exact ln _ _ _ _|with_reducible exact hQ|with_reducible exact hl|with_reducible refine aag c0 ?_|with_reducible refine aan k1 ?_|with_reducible refine aaA (λ_=>?_) O|with_reducible refine ZE _ _ e ?_|with_reducible refine ZE _ _ k ?_|exact rows)
 ·have k1:=(g hk).symm
  repeat' (with_reducible first|refine aag A ?_|refine aan A ?_|refine aaY A ?_|refine And.intro ?_ ?_|exact gW _ _|exact cM _ _|exact dJ _ _|exact ln _ _ _ _|exact hQ|exact hl|refine aag c0 ?_|refine aan k1 ?_|refine aaA O (λ_=>?_)|refine ZE _ _ e ?_)
def Jg(q)(m n:Nat)(K a)(S b)(N)(no)(c)(cE)(i)(hi:i=(m:Int))(k1:N i=no)(Q):
  kr [qp] [(9001,15,Ae q m n K a S b (N i) i i.toNat c 0,Af q m n K a S b (N i) i i.toNat cE)] 65 5001 13 (W9 q m n K a S b N) (λ_=>Xa q n a b no) (λj=>j+1) Q i:=by
 rw[wP];have d:M m=(m:Int):=rfl;have hQ:=trivial;refine aaA O λ_=>?_
 repeat' (with_reducible first|refine aag A ?_|refine aan A ?_|refine aaY A ?_|refine And.intro ?_ ?_|exact gW _ _|exact cM _ _|exact dJ _ _|exact ln _ _ _ _|exact hQ|refine aan k1 ?_)
end
section
open Go.Sort Go.Shelf Go.Proofs
def iO(p:Nat->Bool)(k j:Nat):Nat:=((a_ k).filter p).getD j 0
def SQ{p k m}(a:m<k)(h:p m=true):iO p k (aW p m)=m:=by
 unfold iO aW;obtain⟨r,rfl⟩:∃r,k=m+(r+1):=⟨k-m-1,O⟩;rw[List.range_add,List.range_succ_eq_map,List.map_cons,List.filter_append,List.filter_cons,Nat.add_zero,h];simp
def G8(S:Nat->Nat->List UInt8)(i a:Nat):Bool:=z (bO (aw (S a 0)) (aw (S a 1)) (aw (S i 2)) (aw (S i 3))>0)
def dq(q:Query)(m:Nat)(S:Nat->Nat->List UInt8)(i:Nat):Bool:=z (((aW (G8 S i) m:Nat):Int)<q.top)
def xD(m:Nat)(S:Nat->Nat->List UInt8):Prop := ∀i,i<m->bX (S i 0) (S i 1)=true/\bX (S i 2) (S i 3)=true
def Jh(q)(m n)(K a)(S b)(no)(i)(r)(l:r<m)(o:m<=1000000)(f:xD m S):
  ay PP II false (az II 65 9001) 15 (Ae q m n K a S b no i r (λj=>((aW (G8 S r) j.toNat:Nat):Int)) 0) (Af q m n K a S b no i r ((aW (G8 S r) m:Nat):Int)):=by
 have key:=ay.of (ι:=Nat) fU [qp] (aX PP II []) 1000 (c:=az II 65 9001) (ir:=false) 15 (λj=>j<=m) (λj=>Ae q m n K a S b no i r (λj=>((aW (G8 S r) j.toNat:Nat):Int)) (j:Int)) (λ_=>Af q m n K a S b no i r ((aW (G8 S r) m:Nat):Int)) (λj=>m-j) (λj=>j+1) 0 A (b_ _) λj e=>?_
 ·exact key
 have e:j<=m:=e;have g:((j:Int)).toNat=j:=O;have k:((j:Int)+1).toNat=j+1:=O;by_cases d:j<m
 ·have p:=qa (G8 S r) j;refine Gj q m n K a S b no i r _ _ (j:Int) j A d o ?_ (f j d).1 (f r l).2 (λh=>?_) (λh=>?_) _ Y
  grind
  ·show((aW (G8 S r) ((j:Int)+1).toNat:Nat):Int)=((aW (G8 S r) ((j:Int)).toNat:Nat):Int)+1;rw[g,k,lj (bK h)];rfl
  ·show((aW (G8 S r) ((j:Int)+1).toNat:Nat):Int)=((aW (G8 S r) ((j:Int)).toNat:Nat):Int);rw[g,k,nX (nJ h)]
 ·have e:j=m:=by omega
  subst e;refine N3 q j n K a S b no i r _ _ (j:Int) A ?_ _;rfl
def Gk(q)(m n)(K)(S)(d:m<=1000000)(g:xD m S):
  ay PP II false (az II 65 5001) 13 (W9 q m n K (λj=>K (iO (dq q m S) m j)) S (λj=>S (iO (dq q m S) m j)) (λi=>aW (dq q m S) i.toNat) 0) (Xa q n (λj=>K (iO (dq q m S) m j)) (λj=>S (iO (dq q m S) m j)) (aW (dq q m S) m)):=by
 have key:=ay.ofT (ι:=Nat) fU [qp] 1000 (λi=>[(9001,15,Ae q m n K (λj=>K (iO (dq q m S) m j)) S (λj=>S (iO (dq q m S) m j)) (aW (dq q m S) ((i:Int)).toNat) (i:Int) ((i:Int)).toNat (λj=>((aW (G8 S i) j.toNat:Nat):Int)) 0,Af q m n K (λj=>K (iO (dq q m S) m j)) S (λj=>S (iO (dq q m S) m j)) (aW (dq q m S) ((i:Int)).toNat) (i:Int) ((i:Int)).toNat ((aW (G8 S i) m:Nat):Int))]) (c:=az II 65 5001) (ir:=false) 13 (λi=>i<=m) (λi=>W9 q m n K (λj=>K (iO (dq q m S) m j)) S (λj=>S (iO (dq q m S) m j)) (λi=>aW (dq q m S) i.toNat) (i:Int)) (λ_=>Xa q n (λj=>K (iO (dq q m S) m j)) (λj=>S (iO (dq q m S) m j)) (aW (dq q m S) m)) (λi=>m-i) (λi=>i+1) 0 A (b_ _) λi hi=>?_
 ·exact key
 have hi:i<=m:=hi;have e:((i:Int)).toNat=i:=O;have f:((i:Int)+1).toNat=i+1:=O;by_cases a:i<m
 ·have k:=qa (dq q m S) i;refine DZ q m n K _ S _ (λi=>aW (dq q m S) i.toNat) _ (λj=>((aW (G8 S i) j.toNat:Nat):Int)) _ (i:Int) i A a d ?_ ?_ A (λh=>?_) (λh=>?_) _ Y
  grind
  ·exact Jh q m n K _ S _ _ (i:Int) i a d g
  ·have b:dq q m S i=true:=bK h;show aW (dq q m S) ((i:Int)+1).toNat=aW (dq q m S) ((i:Int)).toNat+1/\K (iO (dq q m S) m (aW (dq q m S) ((i:Int)).toNat))=K i/\S (iO (dq q m S) m (aW (dq q m S) ((i:Int)).toNat))=S i;rw[e,f,lj b,SQ a b];simp
  ·have b:dq q m S i=false:=nJ h;show aW (dq q m S) ((i:Int)+1).toNat=aW (dq q m S) ((i:Int)).toNat;rw[e,f,nX b]
 ·have hi:i=m:=by omega
  subst hi;refine Jg q i n K _ S _ (λj=>aW (dq q i S) j.toNat) _ _ _ (i:Int) A ?_ _;rfl
def xf(q:Query)(m:Nat)(S:Nat->Nat->List UInt8):Nat:=if q.top=0 then m else aW (dq q m S) m
def lk(q:Query)(m:Nat)(S:Nat->Nat->List UInt8)(j:Nat):Nat:=if q.top=0 then j else iO (dq q m S) m j
def VY(m n)(K)(S):((a_ m).all λi=>bj.free (br n K S i))=true:=List.all_eq_true.2 λ_ _=>rfl
def Y4{q m n K S}(b:m<=1000000)(c:xD m S):
  af PP II 65 [.agg (aZ q),.ae m 9 (br n K S)] HP (.ret (.ae (xf q m S) 9 (br n (λj=>K (lk q m S j)) λj=>S (lk q m S j))) HP):=by
 refine lP (ks:=[qp]) (T:=[(5001,13,W9 q m n K (λj=>K (iO (dq q m S) m j)) S (λj=>S (iO (dq q m S) m j)) (λi=>aW (dq q m S) i.toNat) 0,Xa q n (λj=>K (iO (dq q m S) m j)) (λj=>S (iO (dq q m S) m j)) (aW (dq q m S) m))]) ?_;rw[Y2];have a:aW (dq q m S) (0:Int).toNat=0:=rfl;have lp:=Gk q m n K S b c;refine aaA (λh=>?_) λh=>?_
 ·intro σ;unfold xf lk;simp only[if_pos h];exact⟨rfl,rfl,λi hi=>rh n K S i σ⟩
 ·have hQ:∀σ,AV.le σ (.ae (aW (dq q m S) m) 9 (br n (λj=>K (iO (dq q m S) m j)) λj=>S (iO (dq q m S) m j))) (.ae (xf q m S) 9 (br n (λj=>K (lk q m S j)) λj=>S (lk q m S j))):=λσ=>by
   unfold xf lk;simp only[if_neg h];exact⟨rfl,rfl,λi hi=>rh _ _ _ i σ⟩
  refine⟨lp,aan a (aan A ⟨cM _ _,aan A ⟨dJ _ _,aag A (aag A (aaY A (aaY A (aag A (aan A ⟨ln _ _ _ _,aan A ⟨ln _ _ _ _,aan a (aag A (ZE _ _ (by rw[VY,bK (dP _)];rfl) hQ))⟩⟩)))))⟩⟩)⟩
def Y5{n W}(d:n<=1000000):af PP II 61 [.ae n 1 (ah W),.ae n 1 (ah W)] (AH.blank 12) (.ret (.bool true) (AH.blank 12)):=by
 have key:=ay.of (ι:=Nat) fU [] (aX PP II []) 1000 (c:=az II 61 4001) (ir:=false) 12 (λj=>j<=n) (λj=>ZI n W (j:Int)) (λ_=>ZJ) (λj=>n-j) (λj=>j+1) 0 A (b_ _) λj b=>?_
 ·refine bQ (ks:=[]) (T:=[(4001,12,ZI n W 0,ZJ)]) (λ_=>rfl) ?_;rw[Y3];refine FI A ?_;exact⟨key,aan A ⟨gW _ _,aan A ⟨gW _ _,aan A ⟨gW _ _,aag A A⟩⟩⟩⟩
 have b:j<=n:=b;have go:∀(i:Int)(Q:Prop),i=(j:Int)->(j<n->Q)->kr [] [] 61 4001 12 (ZI n W) (λ_=>ZJ) (λj=>j+1) Q i:=λi Q hi hQ=>by
  rw[SP];have e:M n=(n:Int):=rfl;refine aaA (λh=>?_) λ_=>trivial
  have ha:(z (0<=i)&&z (i<M n))=true:=by simp only[ba,bl];omega
  refine ZE _ _ ha (ZE _ _ ha (FI A (ZE _ _ (ai O O) ?_)));exact aan A ⟨gW _ _,aan A ⟨gW _ _,aag A (aan A ⟨gW _ _,aag A (hQ O)⟩)⟩⟩
 exact go (j:Int) _ A λa=>⟨a,O,rfl⟩
def SR:ax PP II:=ax.pure 61
 (λX args a=>match args with
  |[.ae n 1 f,.ae m 1 g]=>X.ag (bN n f&&bN m g&&g_ n 1000000&&e_ n m&&(a_ n).all λi=>z (a8 f i=a8 g i)) (a (.bool true))
  |_=>X.fail)
 λX sem hX args a h=>by
  split at h
  ·rename_i n f m g;obtain⟨b,c⟩:=hX.ag _ _ h;simp only[ba]at b;obtain⟨⟨⟨⟨a1,a2⟩,j⟩,a4⟩,d⟩:=b;cases dV a4;refine⟨_,c,λ_=>rfl,λ_=>rfl,af.iM (Y5 (W:=a8 f) (by simp_all)) (gJ a1) ⟨rfl,rfl,λi hi=>?_⟩⟩;have e:=List.all_eq_true.1 d i (List.mem_range.2 hi);simp only[bl]at e;rw[oU a2 i hi];show bj.le _ [.int .i64 (a8 g i)] [.int .i64 (a8 f i)];rw[e];exact⟨⟨rfl,rfl⟩,trivial⟩
  ·exact zR
def N4(m n)(K)(S)(i)(Q):(kr [SR] [] 59 4001 12 (ZG m n K S) (λ_=>ZH) (λj=>j+1) Q i)=(ak (z (i<M m)) (B (z (0<=i)&&z (i<M m)) (B (z (0<=i)&&z (i<M m)) (B (bN n (ah (K i.toNat))&&bN n (ah (K i.toNat))&&g_ n 1000000&&e_ n n&&List.all (a_ n) λa=>z (a8 (ah (K i.toNat)) a=a8 (ah (K i.toNat)) a)) (ak (!(c_ (S i.toNat 0) (S i.toNat 0)&&(c_ (S i.toNat 1) (S i.toNat 1)&&true)&&(c_ (S i.toNat 2) (S i.toNat 2)&&(c_ (S i.toNat 3) (S i.toNat 3)&&true)&&true))) False (B (aJ .i64 (i+1)) (zyN m (zyR m (br n K S) (zyN m (zyR m (br n K S) (zyI (i+1) (zyI (M m) Q))))))))))) True):=U
def VZ(m n)(K)(S)(Q):(kb [SR] [(4001,12,ZG m n K S 0,ZH)] 25 [.ae m 9 (br n K S),.ae m 9 (br n K S)] Q)=(ak (!decide (M m=M m)) (Q (AV.bool false)) (ay PP II false (az II 59 4001) 12 (ZG m n K S 0) ZH/\zyN m (zyR m (br n K S) (zyN m (zyR m (br n K S) (zyI (M m) (Q (AV.bool true)))))))):=U
end
section
open Go.Sort Go.Shelf Go.Proofs
def Y6(n:Nat)(cs:List AV):Bool:=match cs with
 |[.ae k 1 f,.str _,.str _,.str _,.str _,.str [48],.str [49],.str [48],.str [49]]=>e_ k n&&bN n f
 |_=>false
def Ah(n m:Nat)(r:Nat->List AV):Bool:=(a_ m).all λi=>Y6 n (r i)
def Y7(r:Nat->List AV)(i k:Nat):Int:=match r i with| .ae _ _ f::_=>a8 f k|_=>0
def Ji(r:Nat->List AV)(i k:Nat):List UInt8:=match(r i).getD (k+1) .any with| .str s=>s|_=>[]
def V0{n r i}(h:Y6 n (r i)=true)(σ):bj.le σ (r i) (br n (Y7 r) (Ji r) i):=by
 unfold Y6 at h;split at h
 ·rename_i k f a b c d e;simp only[ba]at h;obtain⟨g,l⟩:=h;cases dV g;unfold br Y7 Ji;rw[e];exact⟨⟨rfl,rfl,λj m=>by rw[oU l j m];exact gw _ _ _⟩,rfl,rfl,rfl,rfl,rfl,rfl,rfl,rfl,trivial⟩
 ·cases h
def Ai{n m r}(h:Ah n m r=true):AV.le (λl=>l) (.ae m 9 r) (.ae m 9 (br n (Y7 r) (Ji r))):=⟨rfl,rfl,λi hi=>V0 (List.all_eq_true.1 h i (List.mem_range.2 hi)) _⟩
def vP(n m)(K)(S):Ah n m (br n K S)=true:=List.all_eq_true.2 λi _=>by
 show(e_ n n&&bN n (ah (K i)))=true;rw[qy,dL];rfl
def SS(m:Nat)(S:Nat->Nat->List UInt8):Bool:=(a_ m).all λi=>bX (S i 0) (S i 1)&&bX (S i 2) (S i 3)
def V1{m S}(h:SS m S=true):xD m S:=λi hi=>by
 have:=List.all_eq_true.1 h i (List.mem_range.2 hi)
 grind
def aaF:ax PP II:=ax.oR 65
 (λX args b=>match args with
  |[.agg cs,.ae m 9 r]=>match toQ cs with
   |some q=>X.ag (jw cs&&Ah q.ng m r&&SS m (Ji r)&&g_ m 1000000) (b (.ae (xf q m (Ji r)) 9 (br q.ng (λj=>Y7 r (lk q m (Ji r) j)) λj=>Ji r (lk q m (Ji r) j))))
   |none=>X.fail
  |_=>X.fail)
 λX sem hX args b h=>by
  split at h
  ·split at h
   ·rename_i q c;obtain⟨a,d⟩:=hX.ag _ _ h;simp only[ba]at a;refine⟨_,d,λ_=>rfl,λσ=>?_,af.iM (Y4 (n:=q.ng) (K:=Y7 _) (by simp_all) (V1 a.1.2)) (toQ_le c a.1.1.1) (Ai a.1.1.2)⟩;show [AV.bx σ (.agg _),_]=_;rw[uJ c];rfl
   ·exact zR
  ·exact zR
def V2{m n:Nat}{K:Nat->Nat->Int}{S:Nat->Nat->List UInt8}(e:m<=1000000)(d:n<=1000000):af PP II 25 [.ae m 9 (br n K S),.ae m 9 (br n K S)] (AH.blank 12) (.ret (.bool true) (AH.blank 12)):=by
 have key:=ay.of (ι:=Nat) fU [SR] (aX PP II []) 1000 (c:=az II 59 4001) (ir:=false) 12 (λj=>j<=m) (λj=>ZG m n K S (j:Int)) (λ_=>ZH) (λj=>m-j) (λj=>j+1) 0 A (b_ _) λj f=>?_
 ·refine bQ (ks:=[SR]) (T:=[(4001,12,ZG m n K S 0,ZH)]) (λ_=>rfl) ?_;rw[VZ];exact FI A ⟨key,aan A ⟨ln _ _ _ _,aan A ⟨ln _ _ _ _,aag A A⟩⟩⟩
 have go:∀(i:Int)(Q:Prop),i=(j:Int)->(j<m->Q)->kr [SR] [] 59 4001 12 (ZG m n K S) (λ_=>ZH) (λj=>j+1) Q i:=λi Q hi hQ=>by
  rw[N4];have g:M m=(m:Int):=rfl;have a:∀s:List UInt8,c_ s s=true:=λs=>beq_self_eq_true (α:=List UInt8) s
  rw[a,a,a,a];refine aaA (λh=>?_) λ_=>trivial
  have ha:(z (0<=i)&&z (i<M m))=true:=by simp only[ba,bl];omega
  refine ZE _ _ ha (ZE _ _ ha (ZE _ _ (by rw[dL,il d,qy];simp) ?_));show B _ _;refine ZE _ _ (ai O O) ?_;exact aan A ⟨ln _ _ _ _,aan A ⟨ln _ _ _ _,aag A (aag A (hQ O))⟩⟩
 exact go (j:Int) _ A λb=>⟨b,O,rfl⟩
end
end
end Go.Sx
