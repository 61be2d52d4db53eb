/- The proof of a statement of the seat, part 37. -/
import Derived.Test.YtoijalagmmgkbaaGreatDoorX36
import Derived.Test.YtoijalagmmgkbaaGreatDoorX31
set_option linter.all false
set_option linter.defProp false
section
set_option maxRecDepth 1000000
namespace Go.Sx
open Go
def mX(X:Nat->Nat->Int)(i:Int):Nat:=(gp X i.toNat).1
def gX(X:Nat->Nat->Int)(i:Int):Nat->ay:=(gp X i.toNat).2
def Yb(X:Nat->Nat->Int)(i:Nat):Bool:=aN .i64 (X i 0)&&aN .i64 (X i 1)&&aN .i64 (X i 2)&&aN .i64 (X i 3)&&aN .i64 (X i 4)&&aN .i64 (X i 5)
theorem Dp{m a:Nat}(x:ay)(G:Nat->ay)(M:Nat)(b:M<=m+1):an M (λi=>bif Nat.blt i a then aF (G (0+i))else bif Nat.blt (i-a) 1 then List.take 10 (List.drop (0+(i-a)*10) (aF x))else aF (G (a+(i-a-1)))) λj=>aF (Ba a x G j):=λi hi σ=>by
 show bt.le σ (bif Nat.blt i a then aF (G (0+i))else bif Nat.blt (i-a) 1 then List.take 10 (List.drop (0+(i-a)*10) (aF x))else aF (G (a+(i-a-1)))) (aF (Ba a x G i))
 unfold Ba
 by_cases h:i<a
 ·rw[eV h,if_pos h,cond_true,Nat.zero_add];exact cL _ _
 ·rw[js h,if_neg h,cond_false]
  by_cases e:i=a
  ·rw[eV (O:i-a<1),if_pos e,cond_true,e,Nat.sub_self];exact cL _ _
  ·rw[js (O:¬ i-a<1),if_neg e,cond_false,show a+(i-a-1)=i-1 by omega];exact cL _ _
theorem JU{a:Nat}(x:ay)(G:Nat->ay):an (a+1) (λi=>bif Nat.blt i a then aF (G (0+i))else List.take 10 (List.drop (0+(i-a)*10) (aF x))) λj=>aF (Ba a x G j):=λi hi σ=>by
 show bt.le σ (bif Nat.blt i a then aF (G (0+i))else List.take 10 (List.drop (0+(i-a)*10) (aF x))) (aF (Ba a x G i))
 unfold Ba
 by_cases h:i<a
 ·rw[eV h,if_pos h,cond_true,Nat.zero_add];exact cL _ _
 ·rw[js h,if_neg h,cond_false,if_pos (O:i=a),show i-a=0 by omega];exact cL _ _
theorem Oh(n:Nat)(X:Nat->Nat->Int)(M:Nat)(Z:Nat->ay)(i:Int)(k:Nat)(hi:i=(k:Int))(N:k<n)(I:k<24)(P:0<k)(hX:Yb X k=true)(Q:Prop)(hQ:Q):
  kr (ι:=Bool×Int) [Dk] [(7034,14,Ki n X (mX X i) (gX X i) i (fU X k) 0,Of n X (mX X i) (gX X i) i (fU X k) (ku (fU X k) (gX X i) (mX X i):Nat))] 12 3008 12 (sF n X (mX X) (gX X)) (λ_=>FT M Z) (λp=>(true,p.2+1)) Q (true,i):=by
 rw[Hk]
 have R:Int.ofNat n=(n:Int):=rfl
 have g:Int.toNat i=k:=O
 have u:Int.toNat (i+1)=k+1:=O
 have v:mX X i=(gp X k).1:=by unfold mX;rw[g]
 have w:gX X i=(gp X k).2:=by unfold gX;rw[g]
 have e:mX X (i+1)=(xk (fU X k) (gp X k)).1:=by unfold mX;rw[u];rfl
 have f:gX X (i+1)=(xk (fU X k) (gp X k)).2:=by unfold gX;rw[u];rfl
 obtain⟨l1,_,_⟩:=Bc X k
 have x:0<(gp X k).1:=by
  obtain⟨j,rfl⟩:∃j,k=j+1:=⟨k-1,O⟩
  exact(Bc X j).2.2
 rw[g,v,w,e,f]
 obtain⟨y,C,D⟩:=qO (fU X k) (gp X k).2 (gp X k).1
 have lp:=Og n X (gp X k).1 (gp X k).2 i (fU X k) O
 unfold xk
 clear v w e f
 revert l1 x y C D lp
 obtain⟨m,G⟩:=gp X k
 show m<=k->0<m->ku (fU X k) G m<=m->(∀j,j<ku (fU X k) G m->JS (G j) (fU X k)=true)->(ku (fU X k) G m<m->JS (G (ku (fU X k) G m)) (fU X k)=false)->Zu PP II false (aD II 12 7034) 14 (Ki n X m G i (fU X k) 0) (Of n X m G i (fU X k) (ku (fU X k) G m:Nat))->_
 dsimp only
 generalize ku (fU X k) G m=a
 intro l1 x y C D lp
 have S:Int.ofNat m=(m:Int):=rfl
 have fr:=Bd m G
 have xr:=u6 n X
 have b:aN .i64 (i+1)=true:=aq O O
 have c:(decide (0<=(a:Int))&&decide ((a:Int)<=(a:Int))&&decide ((a:Int)<=Int.ofNat m)&&decide (0<m))=true:=by simp only[bf,bn];omega
 have l:(decide (0<=(a:Int))&&decide ((a:Int)<=Int.ofNat m)&&decide (Int.ofNat m<=Int.ofNat m)&&decide (0<m))=true:=by simp only[bf,bn];omega
 have t1:Int.toNat (a:Int)=a:=O
 have t2:Int.toNat (Int.ofNat m-(a:Int))=m-a:=O
 have J:Int.toNat ((a:Int)-0)=a:=O
 rw[t1,t2,J]
 have o:(decide (a+(m-a)<=m)&&true&&decide ((1+(m-a))*80<=140737488355328)&&true)=true:=by simp only[bf,bn,and_true];omega
 have d:a+(1+(m-a))=m+1:=O
 have q:(decide (a=a)&&decide (some a=some a)&&true)=true:=zA
 have K:(decide (0+a<=m)&&true&&true&&decide ((a+1)*80<=140737488355328)&&true)=true:=by simp only[bf,bn,and_true];omega
 have E:(decide (0+a<=m)&&decide (1+(m-a)<=1+(m-a))&&true&&decide ((a+(1+(m-a)))*80<=140737488355328)&&true)=true:=by simp only[bf,bn,and_true];omega
 have L:FO (X k 0) (X k 1) (X k 2) (X k 3) (X k 4) (X k 5)=fU X k:=rfl
 rw[L]
 have r:(aN .i64 (X k 0)&&aN .i64 (X k 1)&&aN .i64 (X k 2)&&aN .i64 (X k 3)&&aN .i64 (X k 4)&&aN .i64 (X k 5))=true:=hX
 have ha:(decide (0<=i)&&decide (i<Int.ofNat n))=true:=by simp only[bf,bn];omega
 refine Zg (λ_=>Zg (λ_=>cC _ _ ha (cC _ _ r ⟨lp,?_⟩)) λh=>absurd h O) λh=>absurd h O
 repeat' (with_reducible first|refine Zf A ?_|refine YG A ?_|refine And.intro ?_ ?_|exact fr|exact xr)
 refine Zg (λh=>?_) λh=>?_
 ·have F:(decide (0<=(a:Int))&&decide ((a:Int)<Int.ofNat m))=true:=by simp only[bf,bn];omega
  have H:decide (a<m)=true:=bW O
  refine cC _ _ F (cC _ _ H (Zg (λs=>cC _ _ F (cC _ _ H (Zg (λt=>?_) λt=>?_))) λs=>?_))
  ·rw[show(Nat.blt a m&&oV (G a) (fU X k))=true by rw[eV (O:a<m)];unfold oV;rw[bW s,bW t];rfl,cond_true]
   refine cC _ _ b ?_
   repeat' (first|exact hQ|with_reducible refine Zf A ?_|with_reducible refine YG A ?_|with_reducible refine And.intro ?_ ?_|with_reducible exact fr|with_reducible exact xr)
  ·rw[show(Nat.blt a m&&oV (G a) (fU X k))=false by unfold oV;rw[nZ t,Bool.and_false,Bool.and_false],cond_false]
   refine cC _ _ c (cC _ _ l (cC _ _ o (Zg (λh=>absurd h O) λ_=>?_)))
   refine cC _ _ c (cC _ _ q (cC _ _ E (Zg (λh=>absurd h O) λ_=>Zg (λ_=>cC _ _ b ?_) λh=>absurd A h)))
   exact YG d ⟨Dp _ _ _ (Nat.le_of_eq d),YG d (YG A ⟨xr,Zf A hQ⟩)⟩
  ·rw[show(Nat.blt a m&&oV (G a) (fU X k))=false by unfold oV;rw[nZ s,Bool.false_and,Bool.and_false],cond_false]
   refine cC _ _ c (cC _ _ l (cC _ _ o (Zg (λh=>absurd h O) λ_=>?_)))
   refine cC _ _ c (cC _ _ q (cC _ _ E (Zg (λh=>absurd h O) λ_=>Zg (λ_=>cC _ _ b ?_) λh=>absurd A h)))
   exact YG d ⟨Dp _ _ _ (Nat.le_of_eq d),YG d (YG A ⟨xr,Zf A hQ⟩)⟩
 ·have:a=m:=by omega
  subst this
  rw[show(Nat.blt a a&&oV (G a) (fU X k))=false by rw[js (HD a)];rfl,cond_false]
  refine cC _ _ c (cC _ _ l (cC _ _ o (Zg (λ_=>?_) λh=>absurd (Nat.sub_self a) h)))
  refine cC _ _ c (cC _ _ q (cC _ _ K (Zg (λ_=>cC _ _ b ?_) λh=>absurd A h)))
  exact YG A ⟨JU _ _,YG A (YG A ⟨xr,Zf A hQ⟩)⟩
theorem UJ(n:Nat)(X:Nat->Nat->Int)(x:ay)(a:Int)(i:Int)(k:Nat)(hi:i=(k:Int))(c :¬ (k<n/\k<24))(Q:Prop):
  kr (ι:=Bool×Int) [Dk] [(7034,14,Ki n X (mX X i) (gX X i) i x 0,Of n X (mX X i) (gX X i) i x a)] 12 3008 12 (sF n X (mX X) (gX X)) (λ_=>FT (mX X i) (gX X i)) (λp=>(true,p.2+1)) Q (true,i):=by
 rw[Hk]
 have d:Int.ofNat n=(n:Int):=rfl
 have fr:=Bd (mX X i) (gX X i)
 have b:ax (mX X i) (mX X i) ((an (mX X i) (λj=>aF (gX X i j)) λj=>aF (gX X i j))/\ax (mX X i) (mX X i) True):=YG A ⟨fr,YG A trivial⟩
 exact Zg (λh=>Zg (λe=>absurd ⟨O,O⟩ c) λ_=>b) λ_=>b
theorem JV(n:Nat)(X:Nat->Nat->Int)(M:Nat)(Z:Nat->ay)(i:Int)(hi:i=0)(d:0<n)(hX:Yb X 0=true)(Q:Prop)(hQ:Q):
  kr (ι:=Bool×Int) [Dk] [] 12 3008 12 (sF n X (mX X) (gX X)) (λ_=>FT M Z) (λp=>(true,p.2+1)) Q (false,i):=by
 rw[Dn]
 subst hi
 have e:Int.ofNat n=(n:Int):=rfl
 have xr:=u6 n X
 have c:Int.toNat 0=0:=rfl
 rw[c]
 have a:(aN .i64 (X 0 0)&&aN .i64 (X 0 1)&&aN .i64 (X 0 2)&&aN .i64 (X 0 3)&&aN .i64 (X 0 4)&&aN .i64 (X 0 5))=true:=hX
 have b:mX X (0+1)=1:=rfl
 have ha:(decide ((0:Int)<=0)&&decide (0<Int.ofNat n))=true:=by simp only[bf,bn];omega
 rw[b]
 refine Zg (λ_=>Zg (λ_=>cC _ _ ha (cC _ _ a (cC _ _ A (YG A ⟨λj f σ=>?_,YG A (YG A ⟨xr,Zf A hQ⟩)⟩)))) λh=>absurd h O) λh=>absurd h O
 have:j=0:=O
 subst this
 exact cL σ (fU X 0)
theorem Q9(n:Nat)(X:Nat->Nat->Int)(Z:Nat->ay)(i:Int)(hi:i=0)(a:n=0)(Q:Prop):
  kr (ι:=Bool×Int) [Dk] [] 12 3008 12 (sF n X (mX X) (gX X)) (λ_=>FT 0 Z) (λp=>(true,p.2+1)) Q (false,i):=by
 rw[Dn]
 subst hi a
 exact Zg (λh=>absurd h zC) λ_=>YG A (YG A trivial)
def mZ(n:Nat)(X:Nat->Nat->Int):Nat:=(gp X (min n 24)).1
def oW(n:Nat)(X:Nat->Nat->Int):Nat->ay:=(gp X (min n 24)).2
theorem Ra(n:Nat)(X:Nat->Nat->Int):mZ n X<=24:=Nat.le_trans (Bc X _).1 (Nat.min_le_right _ _)
theorem UG{n:Nat}{X:Nat->Nat->Int}(hX:∀j,j<n->Yb X j=true):
  Zu PP II false (aD II 12 3008) 12 (sF n X (mX X) (gX X) (false,0)) (FT (mZ n X) (oW n X)):=by
 have m:((min n 24:Nat):Int).toNat=min n 24:=O
 have key:=Zu.Vk (ι:=Bool×Int) iw [Dk] 1000 (λp=>match p.1 with
   |true=>[(7034,14,Ki n X (mX X p.2) (gX X p.2) p.2 (fU X p.2.toNat) 0,Of n X (mX X p.2) (gX X p.2) p.2 (fU X p.2.toNat) (ku (fU X p.2.toNat) (gX X p.2) (mX X p.2):Nat))]
   |false=>[]) (c:=aD II 12 3008) (ir:=false) 12 (λp=>match p.1 with
   |true=> ∃k:Nat,p.2=(k:Int)/\0<k/\k<=min n 24
   |false=>p.2=0) (sF n X (mX X) (gX X)) (λ_=>FT (mZ n X) (oW n X)) (λp=>match p.1 with
   |true=>min n 24-p.2.toNat
   |false=>min n 24+1) (λp=>(true,p.2+1)) (false,0) A A λp a=>?_
 rotate_left
 ·obtain⟨b,i⟩:=p
  cases b with
  |true=>
   obtain⟨k,e,g,o⟩:=a
   have e:i=(k:Int):=e
   have f:i.toNat=k:=O
   have q:(i+1).toNat=k+1:=O
   by_cases l:k<min n 24
   ·have:=Oh n X (mZ n X) (oW n X) i k e O O g (hX k O) ((∃k:Nat,i+1=(k:Int)/\0<k/\k<=min n 24)/\min n 24-(i+1).toNat<min n 24-i.toNat/\(FT (mZ n X) (oW n X)).pick=(FT (mZ n X) (oW n X)).pick) ⟨⟨k+1,O,O,O⟩,O,rfl⟩
    rw[<-f]at this
    exact this
   ·have:min n 24=k:=by omega
    have h:=UJ n X (fU X i.toNat) (ku (fU X i.toNat) (gX X i) (mX X i):Nat) i k e O ((∃k:Nat,i+1=(k:Int)/\0<k/\k<=min n 24)/\min n 24-(i+1).toNat<min n 24-i.toNat/\(FT (mZ n X) (oW n X)).pick=(FT (mZ n X) (oW n X)).pick)
    have a1:mX X i=mZ n X:=by unfold mX mZ;rw[f,this]
    have a2:gX X i=oW n X:=by unfold gX oW;rw[f,this]
    rw[a1,a2]at h
    show kr (ι:=Bool×Int) [Dk] [(7034,14,Ki n X (mX X i) (gX X i) i (fU X i.toNat) 0,Of n X (mX X i) (gX X i) i (fU X i.toNat) (ku (fU X i.toNat) (gX X i) (mX X i):Nat))] 12 3008 12 (sF n X (mX X) (gX X)) (λ_=>FT (mZ n X) (oW n X)) (λp=>(true,p.2+1)) _ (true,i)
    rw[a1,a2]
    exact h
  |false=>
   have a:i=0:=a
   by_cases d:0<n
   ·exact JV n X _ _ i a d (hX 0 d) _ ⟨⟨1,by show i+1=1;omega,O,O⟩,by show min n 24-(i+1).toNat<min n 24+1;omega,rfl⟩
   ·have d:n=0:=by omega
    have:mZ n X=0:=by subst d;rfl
    rw[this]
    exact Q9 n X _ i a d _
 exact key
theorem Dq{n:Nat}{X:Nat->Nat->Int}(hX:∀j,j<n->Yb X j=true):
  af PP II 12 [.az n 6 (fm X)] (AH.blank 12) (.ret (cm (mZ n X) (oW n X)) (AH.blank 12)):=by
 refine bY (ks:=[]) (T:=[(3008,12,sF n X (mX X) (gX X) (false,0),FT (mZ n X) (oW n X))]) (λσ=>?_) ?_
 ·exact⟨rfl,rfl,λi _=>cL _ _⟩
 rw[W2]
 refine⟨UG hX,YG A ⟨u6 n X,cC _ _ ?_ ?_⟩⟩
 ·rw[bW (dw _),Bool.and_true]
  exact List.all_eq_true.2 λ_ _=>rfl
 ·rfl
end Go.Sx
namespace Go.Sx
open Go
theorem u7{cs:List AV}(h:oG 6 cs=true):cs=[.int .i64 (bV cs 0),.int .i64 (bV cs 1),.int .i64 (bV cs 2),.int .i64 (bV cs 3),.int .i64 (bV cs 4),.int .i64 (bV cs 5)]/\(aN .i64 (bV cs 0)&&aN .i64 (bV cs 1)&&aN .i64 (bV cs 2)&&aN .i64 (bV cs 3)&&aN .i64 (bV cs 4)&&aN .i64 (bV cs 5))=true:=by
 obtain⟨e,b⟩:=pC 6 cs h
 obtain⟨a0,f⟩:=b 0 O
 obtain⟨a1,g⟩:=b 1 O
 obtain⟨a2,i⟩:=b 2 O
 obtain⟨c,j⟩:=b 3 O
 obtain⟨a4,k⟩:=b 4 O
 obtain⟨d,l⟩:=b 5 O
 refine⟨?_,by rw[f,g,i,j,k,l];rfl⟩
 match cs,e with
 |[x,y,a,u,v,w],_=>
  simp only[List.getElem?_cons_zero,List.getElem?_cons_succ,fE]at a0 a1 a2 c a4 d
  rw[<-a0,<-a1,<-a2,<-c,<-a4,<-d]
end Go.Sx
end
section
set_option maxRecDepth 1000000
namespace Go.Sx
open Go
def Yd(x:ay)(d:Int):Int:=match xG x d with|true=>0|false=>190
noncomputable def Be(q:Query):aC PP II:=aC.CC 43
 (λX args b=>match args with
  |[.agg cs,.agg ds,.int .i64 d]=>match iV ds with
   |some x=>X.ak (qT q cs&&ct q&&bB x) (b (.bK [.bool (qS q x d),.int .i64 (Yd x d)]))
   |none=>X.fail
  |_=>X.fail)
 λX sem hX args b h=>by
  split at h
  ·split at h
   ·rename_i x hx
    obtain⟨a,c⟩:=hX.ak _ _ h
    simp only[bf]at a
    cases fK hx
    obtain⟨r1,e,f⟩:=mY a.1.2
    obtain⟨l1,l2⟩:=mi a.1.1
    refine⟨_,c,λ_=>rfl,λσ=>?_,af.nT (tZ r1 e f a.2) l1 (uY x) ⟨rfl,rfl⟩⟩
    show [AV.bD σ (.agg _),_,_]=_
    rw[l2];rfl
   ·exact zR
  ·exact zR
noncomputable def Hl(q:Query):aC PP II:=aC.s9 44
 (λX args b=>match args with
  |[.agg cs,.az k 1 r]=>X.ak (qT q cs&&ct q&&bA k r&&bX k (aM r)) (b (.agg [.str (c8 q k (aM r)),.str (da q k (aM r))]))
  |_=>X.fail)
 λX sem hX args b h=>by
  split at h
  ·obtain⟨a,c⟩:=hX.ak _ _ h
   simp only[bf]at a
   obtain⟨l1,l2⟩:=mi a.1.1.1
   refine⟨_,c,λ_=>rfl,λσ=>?_,af.dA (Fj a.2 (mY a.1.1.2).2.2) l1 (cy a.1.2)⟩
   show [AV.bD σ (.agg _),_]=_
   rw[l2];rfl
  ·exact zR
def uG(q:Query)(F:Nat->ay)(D T:Nat->Int)(j:Nat):Bool:=qS q (F (T j).toNat) (D (T j).toNat)
def Rb(q:Query)(D L T:Nat->Int)(j:Nat):Int:=if q.fl=8 then D (T j).toNat else L j
def tT(k:Nat)(F:Nat->ay)(D:Nat->Int)(a:List (Nat×AV)):Tr AV:=Tr.ofList ([(1,cm k F),(2,.az k 1 (ae D)),(3,.ptr 14 0 0 0)]++a)
noncomputable def SY(q:Query)(k:Nat)(F:Nat->ay)(D:Nat->Int)(i:Int):St:={t:=tT k F D [(35,cm k F),(36,.int .i64 (Int.ofNat k)),(37,.int .i64 i)],nt:=131,H:=hQ 15 [(14,.cells (aY q) (.ty 32))],df:=[]}
noncomputable def SZ(q:Query)(k:Nat)(F:Nat->ay)(D:Nat->Int):GE:=.one (.x 0 {t:=tT k F D [],nt:=131,H:=hQ 15 [(14,.cells (aY q) (.ty 32))],df:=[]})
noncomputable def Xt(q:Query)(K:Nat->Nat->Int)(S:Nat->Nat->List UInt8)(no n:Nat)(a:List (Nat×Zv)):AH:=hQ n ([(14,.cells (aY q) (.ty 32)),(15,.rows no 9 (aX q.ng K S) (.ty 44))]++a)
noncomputable def Ye(q:Query)(k:Nat)(F:Nat->ay)(D:Nat->Int)(n:Nat)(X:Nat->bj)(no:Nat)(i:Int)(a:List (Nat×AV)):Tr AV:=tT k F D ([(10,.own 15 no 9),(61,.az n 1 (qN q.ng X)),(62,.int .i64 (Int.ofNat n)),(63,.int .i64 i)]++a)
noncomputable def Rc(q:Query)(k:Nat)(F:Nat->ay)(D:Nat->Int)(n:Nat)(X:Nat->bj)(K:Nat->Nat->Int)(S:Nat->Nat->List UInt8)(N:Int->Nat)(i:Int):St:={t:=Ye q k F D n X (N i) i [],nt:=131,H:=Xt q K S (N i) 16 [],df:=[]}
noncomputable def Re(q:Query)(n:Nat)(K:Nat->Nat->Int)(S:Nat->Nat->List UInt8):GE:=.one (.x 2 {t:=Tr.ofList [(3,.ptr 14 0 0 0),(10,.own 15 n 9)],nt:=131,H:=Xt q K S n 16 [],df:=[]})
noncomputable def Rf(q:Query)(k:Nat)(F:Nat->ay)(D:Nat->Int)(n:Nat)(X:Nat->bj)(K:Nat->Nat->Int)(S:Nat->Nat->List UInt8)(no:Nat)(i:Int)(a:bj)(V:Nat->Int)(N:Int->Nat)(j:Int):St:={t:=Ye q k F D n X no i [(12,.fc (qL q.ng a) 0),(13,.own 16 (N j) 1),(70,.az a.m 1 (ae a.T)),(71,.int .i64 (Int.ofNat a.m)),(72,.int .i64 j)],nt:=131,H:=Xt q K S no 17 [(16,.rows (N j) 1 (ae V) (.ty 3))],df:=[]}
noncomputable def Rg(q:Query)(k:Nat)(F:Nat->ay)(D:Nat->Int)(n:Nat)(X:Nat->bj)(K:Nat->Nat->Int)(S:Nat->Nat->List UInt8)(no:Nat)(i:Int)(b:bj)(V:Nat->Int)(a:Nat):GE:=.one (.x 4 {t:=Ye q k F D n X no i [(12,.fc (qL q.ng b) 0),(13,.own 16 a 1)],nt:=131,H:=Xt q K S no 17 [(16,.rows a 1 (ae V) (.ty 3))],df:=[]})
theorem Rh(q:Query)(k:Nat)(F:Nat->ay)(D:Nat->Int)(i:Int)(Q:Prop):(kr [] [] 14 4001 15 (SY q k F D) (λ_=>SZ q k F D) (λi=>i+1) Q i)=(let b:=(an k (λi=>aF (F i)) λi=>aF (F i));(ah (decide (i<Int.ofNat k)) (aa (decide (0<=i)&&decide (i<Int.ofNat k)) (aa (decide (0<=i)&&decide (i<Int.ofNat k)) (ah (decide (D i.toNat<ay.l (F i.toNat))) False (aa (decide (0<=i)&&decide (i<Int.ofNat k)) (ah (decide (D i.toNat>ay.h (F i.toNat))) False (aa (aN .i64 (i+1)) (zyN q.nw (zyR q.nw (au q.C) (zyN q.ng (zyR q.ng (aR q.G) (zyI q.a (zyI q.fl (zyB q.nu (zyB q.de (zyI q.top (zyB [48] (zyB [49] (zyR 5 aA (zyN k (b/\zyN k (b/\zyI (i+1) (zyI (Int.ofNat k) (zyN k (zyR k (ae D) Q)))))))))))))))))))))))) (zyN q.nw (zyR q.nw (au q.C) (zyN q.ng (zyR q.ng (aR q.G) (zyI q.a (zyI q.fl (zyB q.nu (zyB q.de (zyI q.top (zyB [48] (zyB [49] (zyR 5 aA (zyN k (b/\zyN k (zyR k (ae D) True))))))))))))))))):=U
theorem Ri(q:Query)(k:Nat)(F:Nat->ay)(D:Nat->Int)(n:Nat)(X:Nat->bj)(K:Nat->Nat->Int)(S:Nat->Nat->List UInt8)(no:Nat)(i:Int)(b:bj)(V:Nat->Int)(N:Int->Nat)(l:Nat)(j:Int)(Q:Prop):(kr [Be q] [] 14 15001 16 (Rf q k F D n X K S no i b V N) (λ_=>Rg q k F D n X K S no i b V l) (λj=>j+1) Q j)=(let d:=(an k (λi=>aF (F i)) λi=>aF (F i));let f:=(zyR no (aX q.ng K S) (zyN q.nw (zyR q.nw (au q.C) (zyN q.ng (zyR q.ng (aR q.G) (zyI q.a (zyI q.fl (zyB q.nu (zyB q.de (zyI q.top (zyB [48] (zyB [49] (zyR 5 aA (zyI i (zyI (Int.ofNat b.m) (zyN k (d/\ax (N j+1) (N (j+1)) (zyN n (zyR n (qN q.ng X) (zyI (j+1) (zyN q.ng (zyR q.ng (ae b.W) (zyN b.m (zyR b.m (bi b.L b.G b.C) (zyN b.m (zyR b.m (ae b.T) (zyN k (zyR k (ae D) (zyN no (zyN b.m (zyR b.m (ae b.T) (zyI (Int.ofNat n) Q))))))))))))))))))))))))))))))));let e:=(decide (0<=b.T j.toNat)&&decide (b.T j.toNat<Int.ofNat k));let g:=(decide (N j<=N j)&&true&&true&&decide ((N j+1)*8<=140737488355328)&&true);let c:=(Int.toNat (b.T j.toNat));let h:=(decide (0<=j)&&decide (j<Int.ofNat b.m));(ah (decide (j<Int.ofNat b.m)) (aa h (aa e (aa e (aa (qT q [AV.az q.nw 3 (au q.C),AV.az q.ng 1 (aR q.G),AV.int .i64 q.a,AV.int .i64 q.fl,AV.str q.nu,AV.str q.de,AV.int .i64 q.top]&&ct q&&bB (F c)) (ah (!qS q (F c) (D c)) (aa (aN .i64 (j+1)) (ax (N j) (N (j+1)) (zyR (N j) (ae V) (zyN no (zyR no (aX q.ng K S) (zyN q.nw (zyR q.nw (au q.C) (zyN q.ng (zyR q.ng (aR q.G) (zyI q.a (zyI q.fl (zyB q.nu (zyB q.de (zyI q.top (zyB [48] (zyB [49] (zyR 5 aA (zyI i (zyI (Int.ofNat b.m) (zyN k (d/\ax (N j) (N (j+1)) (zyN n (zyR n (qN q.ng X) (zyI (j+1) (zyN q.ng (zyR q.ng (ae b.W) (zyN b.m (zyR b.m (bi b.L b.G b.C) (zyN b.m (zyR b.m (ae b.T) (zyN k (zyR k (ae D) (zyN no (zyN b.m (zyR b.m (ae b.T) (zyI (Int.ofNat n) Q)))))))))))))))))))))))))))))))))))) (aa h (ah (decide (q.fl=8)) (aa e (aa g (aa (aN .i64 (j+1)) (ax (N j+1) (N (j+1)) (an (N j+1) (λi=>bif Nat.blt i (N j)then ae V i else List.take 1 (List.drop (0+(i-N j)*1) [AV.int .i64 (D c)])) (ae V)/\zyN no f))))) (aa g (aa (aN .i64 (j+1)) (ax (N j+1) (N (j+1)) (an (N j+1) (λi=>bif Nat.blt i (N j)then ae V i else List.take 1 (List.drop (0+(i-N j)*1) [AV.int .i64 (b.L j.toNat)])) (ae V)/\zyN no f))))))))))) (ax (N j) l (zyR (N j) (ae V) (zyN no (zyR no (aX q.ng K S) (zyN q.nw (zyR q.nw (au q.C) (zyN q.ng (zyR q.ng (aR q.G) (zyI q.a (zyI q.fl (zyB q.nu (zyB q.de (zyI q.top (zyB [48] (zyB [49] (zyR 5 aA (zyI i (zyN k (d/\ax (N j) l (zyN n (zyR n (qN q.ng X) (zyN q.ng (zyR q.ng (ae b.W) (zyN b.m (zyR b.m (bi b.L b.G b.C) (zyN b.m (zyR b.m (ae b.T) (zyN k (zyR k (ae D) (zyN no (zyI (Int.ofNat n) True))))))))))))))))))))))))))))))))):=U
theorem Hn(q:Query)(k:Nat)(F:Nat->ay)(D:Nat->Int)(n:Nat)(X:Nat->bj)(K:Nat->Nat->Int)(S:Nat->Nat->List UInt8)(N:Int->Nat)(V:Nat->Int)(e:Int->Nat)(b:Nat)(i:Int)(Q:Prop):(kr [Hl q] [(15001,16,Rf q k F D n X K S (N i) i (X i.toNat) V e 0,Rg q k F D n X K S (N i) i (X i.toNat) V b)] 14 11001 15 (Rc q k F D n X K S N) (λ_=>Re q n K S) (λi=>i+1) Q i)=(let d:=(an k (λi=>aF (F i)) λi=>aF (F i));(ah (decide (i<Int.ofNat n)) (aa (decide (0<=i)&&decide (i<Int.ofNat n)) (Zu PP II false (aD II 14 15001) 16 (Rf q k F D n X K S (N i) i (X i.toNat) V e 0) (Rg q k F D n X K S (N i) i (X i.toNat) V b)/\ax (e 0) 0 (zyN (N i) (zyR (N i) (aX q.ng K S) (zyN q.nw (zyR q.nw (au q.C) (zyN q.ng (zyR q.ng (aR q.G) (zyI q.a (zyI q.fl (zyB q.nu (zyB q.de (zyI q.top (zyB [48] (zyB [49] (zyR 5 aA (zyI i (zyI (Int.ofNat (bj.m (X i.toNat))) (zyN k (d/\ax (e 0) 0 (zyN n (zyR n (qN q.ng X) (zyN q.ng (zyR q.ng (ae (bj.W (X i.toNat))) (zyN (bj.m (X i.toNat)) (zyR (bj.m (X i.toNat)) (bi (bj.L (X i.toNat)) (bj.G (X i.toNat)) (bj.C (X i.toNat))) (zyN (bj.m (X i.toNat)) (zyR (bj.m (X i.toNat)) (ae (bj.T (X i.toNat))) (zyN k (zyR k (ae D) (zyN (N i) (zyN (bj.m (X i.toNat)) (zyR (bj.m (X i.toNat)) (ae (bj.T (X i.toNat))) (zyI (Int.ofNat n) (aa ((List.all (List.range b) λi=>bt.free (ae V i))&&decide (b<=b)) (aa ((qT q [AV.az q.nw 3 (au q.C),AV.az q.ng 1 (aR q.G),AV.int .i64 q.a,AV.int .i64 q.fl,AV.str q.nu,AV.str q.de,AV.int .i64 q.top]&&ct q&&List.all (List.range b) λi=>true)&&bX b λi=>V i) (aa (decide (N i<=N i)&&true&&true&&decide ((N i+1)*152<=140737488355328)&&true) (aa (aN .i64 (i+1)) (ax (N i+1) (N (i+1)) (an (N i+1) (λc=>bif Nat.blt c (N i)then aX q.ng K S c else List.take 9 (List.drop (0+(c-N i)*9) [AV.az q.ng 1 (ae (bj.W (X i.toNat))),AV.str (c8 q b λi=>V i),AV.str (da q b λi=>V i),AV.str (c8 q b λi=>V i),AV.str (da q b λi=>V i),AV.str [48],AV.str [49],AV.str [48],AV.str [49]])) (aX q.ng K S)/\zyN q.nw (zyR q.nw (au q.C) (zyN q.ng (zyR q.ng (aR q.G) (zyI q.a (zyI q.fl (zyB q.nu (zyB q.de (zyI q.top (zyB [48] (zyB [49] (zyR 5 aA (zyI (i+1) (zyN k (d/\zyN n (zyR n (qN q.ng X) (zyN k (zyR k (ae D) (ax (N i+1) (N (i+1)) (zyI (Int.ofNat n) Q))))))))))))))))))))))))))))))))))))))))))))))))))))))))))) (ax (N i) n (zyR (N i) (aX q.ng K S) (zyN q.nw (zyR q.nw (au q.C) (zyN q.ng (zyR q.ng (aR q.G) (zyI q.a (zyI q.fl (zyB q.nu (zyB q.de (zyI q.top (zyB [48] (zyB [49] (zyR 5 aA (ax (N i) n True))))))))))))))))):=U
theorem Oi(q:Query)(k:Nat)(F:Nat->ay)(D:Nat->Int)(n:Nat)(X:Nat->bj)(K:Nat->Nat->Int)(S:Nat->Nat->List UInt8)(N:Int->Nat)(Q:AV->Prop):(kq [u5 q,uT,rZ q,Hg] [(4001,15,SY q k F D 0,SZ q k F D),(11001,15,Rc q k F D n X K S N 0,Re q n K S)] 14 [.agg (aY q),cm k F,.az k 1 (ae D)] Q)=(aa (qT q [AV.az q.nw 3 (au q.C),AV.az q.ng 1 (aR q.G),AV.int .i64 q.a,AV.int .i64 q.fl,AV.str q.nu,AV.str q.de,AV.int .i64 q.top]&&ct q) (aa (decide (k<=1000000)&&fh k λi=>aF (F i)) (ah (!cX k (bP λi=>aF (F i))) (Q (AV.bK [AV.aw,AV.int .i64 200])) (ah (!decide (Int.ofNat k=Int.ofNat k)) (Q (AV.bK [AV.aw,AV.int .i64 200])) (Zu PP II false (aD II 14 4001) 15 (SY q k F D 0) (SZ q k F D)/\zyN q.nw (zyR q.nw (au q.C) (zyN q.ng (zyR q.ng (aR q.G) (zyI q.a (zyI q.fl (zyB q.nu (zyB q.de (zyI q.top (zyB [48] (zyB [49] (zyR 5 aA (zyN k ((an k (λi=>aF (F i)) λi=>aF (F i))/\zyN k ((an k (λi=>aF (F i)) λi=>aF (F i))/\zyI (Int.ofNat k) (zyN k (zyR k (ae D) (aa (qT q [AV.az q.nw 3 (au q.C),AV.az q.ng 1 (aR q.G),AV.int .i64 q.a,AV.int .i64 q.fl,AV.str q.nu,AV.str q.de,AV.int .i64 q.top]&&ct q&&Nat.ble k 1000000&&ie k λi=>aF (F i)) (Zu PP II false (aD II 14 11001) 15 (Rc q k F D n X K S N 0) (Re q n K S)/\ax (N 0) 0 (zyN q.nw (zyR q.nw (au q.C) (zyN q.ng (zyR q.ng (aR q.G) (zyI q.a (zyI q.fl (zyB q.nu (zyB q.de (zyI q.top (zyB [48] (zyB [49] (zyR 5 aA (zyN k ((an k (λi=>aF (F i)) λi=>aF (F i))/\ax (List.length (aV q (bP λi=>aF (F i)) k)) n (an (List.length (aV q (bP λi=>aF (F i)) k)) (lX q.ng (List.length (aV q (bP λi=>aF (F i)) k)) (fj q.ng (aV q (bP λi=>aF (F i)) k))) (qN q.ng X)/\zyN k (zyR k (ae D) (ax (N 0) 0 (aH (Int.ofNat (List.length (aV q (bP λi=>aF (F i)) k))) (Int.ofNat n) (aa (Nat.beq n n&&bt.free [AV.az q.nw 3 (au q.C),AV.az q.ng 1 (aR q.G),AV.int .i64 q.a,AV.int .i64 q.fl,AV.str q.nu,AV.str q.de,AV.int .i64 q.top]&&List.all (List.range n) λi=>bt.free (aX q.ng K S i)) (aa (gn [AV.az q.nw 3 (au q.C),AV.az q.ng 1 (aR q.G),AV.int .i64 q.a,AV.int .i64 q.fl,AV.str q.nu,AV.str q.de,AV.int .i64 q.top]&&wT q.ng n (aX q.ng K S)&&Ft n (nV (aX q.ng K S))&&Nat.ble n 1000000) (Q (AV.bK [AV.az (ju {nw:=q.nw,C:=bG (au q.C),ng:=q.ng,G:=λj=>q.G j,a:=q.a,fl:=q.fl,nu:=q.nu,de:=q.de,top:=q.top} n (nV (aX q.ng K S))) 9 (aX q.ng (λj=>CZ (aX q.ng K S) (cS {nw:=q.nw,C:=bG (au q.C),ng:=q.ng,G:=λj=>q.G j,a:=q.a,fl:=q.fl,nu:=q.nu,de:=q.de,top:=q.top} n (nV (aX q.ng K S)) j)) λj=>nV (aX q.ng K S) (cS {nw:=q.nw,C:=bG (au q.C),ng:=q.ng,G:=λj=>q.G j,a:=q.a,fl:=q.fl,nu:=q.nu,de:=q.de,top:=q.top} n (nV (aX q.ng K S)) j)),AV.int .i64 0]))))))))))))))))))))))))))))))))))))))))))))):=U
end Go.Sx
end
section
set_option maxRecDepth 1000000
namespace Go.Sx
open Go
def oc(q:Query)(F:Nat->ay)(k:Nat)(a:bj):Prop := ∀j,j<a.m->∃f:Nat,f<k/\a.T j=(f:Int)/\gk q (F f)=true/\a.L j=kR q (F f)/\a.G j=lJ q (F f)/\a.C j=Br q (F f)
theorem yD(q:Query)(F:Nat->ay):∀i j,j<(aV q F i).length->oc q F i (aK (aV q F i) j)
 |0,j,b=>absurd b ZE
 |i+1,l,hl=>by
  have c:=yD q F i
  have up:∀j,j<(aV q F i).length->oc q F (i+1) (aK (aV q F i) j):=λj b a ha=>by
   obtain⟨f,g,d⟩:=c j b a ha
   exact⟨f,O,d⟩
  revert hl
  show l<(km q (aV q F i) i (F i)).length->oc q F (i+1) (aK (km q (aV q F i) i (F i)) l)
  unfold km
  cases hp:gk q (F i)with
  |false=>exact up l
  |true=>
   simp only[cond_true]
   split
   ·rename_i j b
    obtain⟨b,_⟩:=lF b
    intro hl
    rw[List.length_set]at hl
    rw[gg b]
    by_cases h:l=j
    ·rw[if_pos h]
     intro a ha
     have ha:a<(aK (aV q F i) j).m+1:=ha
     show ∃f:Nat,f<i+1/\gV _ _ _ a=(f:Int)/\gk q (F f)=true/\gV _ _ _ a=_/\gV _ _ _ a=_/\uj _ _ _ a=_
     unfold gV uj
     by_cases e:a=(aK (aV q F i) j).m
     ·simp only[if_pos e];exact⟨i,O,rfl,hp,rfl,rfl,rfl⟩
     ·simp only[if_neg e];exact up j b a O
    ·rw[if_neg h];exact up l hl
   ·intro hl
    simp only[List.length_append,List.length_cons,List.length_nil]at hl
    rw[gh]
    by_cases h:l=(aV q F i).length
    ·rw[if_pos h]
     intro a ha
     exact⟨i,O,rfl,hp,rfl,rfl,rfl⟩
    ·rw[if_neg h];exact up l O
theorem Ho(q:Query)(F:Nat->ay)(k:Nat){i:Nat}(hi:i<(aV q F k).length):oc q F k (og q (aV q F k) i):=
 yD q F k _ (u4 q.ng (aV q F k).length (fj q.ng (aV q F k)) hi)
def yd(q:Query)(F:Nat->ay)(D:Nat->Int)(a:bj):Nat:=aP (uG q F D a.T) a.m
def uq(q:Query)(F:Nat->ay)(D:Nat->Int)(a:bj):Nat->Int:=bS (uG q F D a.T) (Rb q D a.L a.T) a.m
def jy(q:Query)(F:Nat->ay)(D:Nat->Int)(X:Nat->bj)(i k:Nat):List UInt8:=match k with
 |0=>c8 q (yd q F D (X i)) (uq q F D (X i))
 |1=>da q (yd q F D (X i)) (uq q F D (X i))
 |2=>c8 q (yd q F D (X i)) (uq q F D (X i))
 |_=>da q (yd q F D (X i)) (uq q F D (X i))
def r9(k:Nat)(F:Nat->ay)(D:Nat->Int):Prop := ∀j,j<k->(F j).l<=D j/\D j<=(F j).h
theorem Rj(q:Query)(k:Nat)(F:Nat->ay)(D:Nat->Int)(e:k<=1000)(b:r9 k F D):Zu PP II false (aD II 14 4001) 15 (SY q k F D 0) (SZ q k F D):=by
 have key:=Zu.of (ι:=Nat) iw [] (bm PP II []) 1000 (c:=aD II 14 4001) (ir:=false) 15 (λj=>j<=k) (λj=>SY q k F D (j:Int)) (λ_=>SZ q k F D) (λj=>k-j) (λj=>j+1) 0 A (Nat.zero_le _) λj a=>?_
 ·exact key
 have a:j<=k:=a
 have go:∀(i:Int)(Q:Prop),i=(j:Int)->(j<k->Q)->kr [] [] 14 4001 15 (SY q k F D) (λ_=>SZ q k F D) (λj=>j+1) Q i:=λi Q hi hQ=>by
  rw[Rh]
  have f:Int.ofNat k=(k:Int):=rfl
  have d:Int.toNat i=j:=O
  rw[d]
  have fr:=gU k F
  have dr:=bL k D
  refine Zg (λh=>?_) λh=>?_
  ·have ha:(decide (0<=i)&&decide (i<Int.ofNat k))=true:=by simp only[bf,bn];omega
   obtain⟨d1,g⟩:=b j O
   have q1:=hQ O
   refine cC _ _ ha (cC _ _ ha (Zg (λh=>absurd h O) λ_=>cC _ _ ha (Zg (λh=>absurd h O) λ_=>cC _ _ (aq O O) ?_)))
   repeat' (with_reducible first|refine Zf A ?_|refine YG A ?_|refine Zi A ?_|refine And.intro ?_ ?_|exact bC _ _|exact bO _ _|exact aZ|exact fr|exact dr|exact q1)
  ·repeat' (with_reducible first|refine Zf A ?_|refine YG A ?_|refine Zi A ?_|refine And.intro ?_ ?_|exact bC _ _|exact bO _ _|exact aZ|exact fr|exact dr|exact trivial)
 exact go (j:Int) _ A λh=>⟨h,O,rfl⟩
theorem S0(n g:Nat)(X:Nat->bj):an n (qN g X) (qN g X):=λi _ σ=>⟨⟨⟨⟨rfl,rfl,λj _=>jw _ _ j⟩,⟨rfl,rfl,λj _=>kS _ _ _ _ j⟩,⟨rfl,rfl,λj _=>jw _ _ j⟩,trivial⟩,rfl⟩,trivial⟩
theorem Rk(q:Query)(k:Nat)(F:Nat->ay)(D:Nat->Int)(n:Nat)(X:Nat->bj)(K:Nat->Nat->Int)(S:Nat->Nat->List UInt8)(no:Nat)(i:Int)(a:bj)(v:ct q=true)(M:k<=1000)(N:a.m<=1000)(w:∀j,j<k->bB (F j)=true)(x:oc q F k a):
  Zu PP II false (aD II 14 15001) 16 (Rf q k F D n X K S no i a (uq q F D a) (λj=>aP (uG q F D a.T) j.toNat) 0) (Rg q k F D n X K S no i a (uq q F D a) (yd q F D a)):=by
 have key:=Zu.of (ι:=Nat) iw [Be q] (bm PP II []) 1000 (c:=aD II 14 15001) (ir:=false) 16 (λj=>j<=a.m) (λj=>Rf q k F D n X K S no i a (uq q F D a) (λj=>aP (uG q F D a.T) j.toNat) (j:Int)) (λ_=>Rg q k F D n X K S no i a (uq q F D a) (yd q F D a)) (λj=>a.m-j) (λj=>j+1) 0 A (Nat.zero_le _) λj s=>?_
 ·exact key
 have s:j<=a.m:=s
 have go:∀(J:Int)(Q:Prop),J=(j:Int)->(j<a.m->Q)->kr [Be q] [] 14 15001 16 (Rf q k F D n X K S no i a (uq q F D a) (λj=>aP (uG q F D a.T) j.toNat)) (λ_=>Rg q k F D n X K S no i a (uq q F D a) (yd q F D a)) (λj=>j+1) Q J:=λJ Q P hQ=>by
  rw[Ri]
  have R:Int.ofNat a.m=(a.m:Int):=rfl
  have y:Int.toNat J=j:=O
  have E:Int.toNat (J+1)=j+1:=O
  rw[y,E]
  have fr:=gU k F
  have dr:=bL k D
  have tr:=S0 n q.ng X
  have rr:=eP no q.ng K S
  have wr:=bL q.ng a.W
  have sr:an a.m (bi a.L a.G a.C) (bi a.L a.G a.C):=λi _ σ=>kS _ _ _ σ i
  have mr:=bL a.m a.T
  have l:=bL (aP (uG q F D a.T) j) (uq q F D a)
  have U:=jV (uG q F D a.T) j
  refine Zg (λh=>?_) λh=>?_
  ·have d:j<a.m:=by omega
   have ha:(decide (0<=J)&&decide (J<Int.ofNat a.m))=true:=by simp only[bf,bn];omega
   obtain⟨f,f1,V,_⟩:=x j d
   have t:(a.T j).toNat=f:=O
   have o:(decide (0<=a.T j)&&decide (a.T j<Int.ofNat k))=true:=by
    have Y:Int.ofNat k=(k:Int):=rfl
    simp only[bf,bn];omega
   have q1:=hQ d
   have H:=w f f1
   have e:aN .i64 (J+1)=true:=aq O O
   have p:qS q (F (a.T j).toNat) (D (a.T j).toNat)=uG q F D a.T j:=rfl
   rw[jv,v,p,t,H]
   refine cC _ _ ha (cC _ _ o (cC _ _ o (cC _ _ A (Zh (λb=>?_) λb=>?_))))
   ·have b:uG q F D a.T j=false:=by simpa using b
    rw[kO b]
    refine cC _ _ e ?_
    repeat' (with_reducible first|refine Zf A ?_|refine YG A ?_|refine Zi A ?_|refine And.intro ?_ ?_|exact bC _ _|exact bO _ _|exact aZ|exact fr|exact dr|exact tr|exact rr|exact wr|exact sr|exact mr|exact l|exact q1)
   ·have b:uG q F D a.T j=true:=by simpa using b
    rw[iE b]
    have u:(decide (aP (uG q F D a.T) j<=aP (uG q F D a.T) j)&&true&&true&&decide ((aP (uG q F D a.T) j+1)*8<=140737488355328)&&true)=true:=by rw[bW (dw _),bW (O:(aP (uG q F D a.T) j+1)*8<=140737488355328)];rfl
    have g:uq q F D a (aP (uG q F D a.T) j)=Rb q D a.L a.T j:=rR d b
    refine cC _ _ ha (Zg (λr=>cC _ _ o (cC _ _ u (cC _ _ e ?_))) λr=>cC _ _ u (cC _ _ e ?_))
    ·have vs:=ey (uq q F D a) (aP (uG q F D a.T) j) (D f) (by rw[g];unfold Rb;rw[if_pos r,t])
     exact ZH
    ·have vs:=ey (uq q F D a) (aP (uG q F D a.T) j) (a.L j) (by rw[g];unfold Rb;rw[if_neg r])
     exact ZH
  ·have I:j=a.m:=by omega
   subst I
   have l:an (yd q F D a) (ae (uq q F D a)) (ae (uq q F D a)):=l
   repeat' (first|with_reducible refine Zf A ?_|with_reducible refine YG A ?_|refine YG (show aP (uG q F D a.T) a.m=yd q F D a from rfl) ?_|with_reducible refine Zi A ?_|with_reducible refine And.intro ?_ ?_|with_reducible exact bC _ _|with_reducible exact bO _ _|with_reducible exact aZ|with_reducible exact fr|with_reducible exact dr|with_reducible exact tr|with_reducible exact rr|with_reducible exact wr|with_reducible exact sr|with_reducible exact mr|exact l|with_reducible exact trivial)
 exact go (j:Int) _ A λh=>⟨h,O,rfl⟩
end Go.Sx
end
section
set_option maxRecDepth 1000000
namespace Go.Sx
open Go
theorem UK{q:Query}{k:Nat}{F:Nat->ay}{D:Nat->Int}{a:bj}(c:eU q=true)(b:∀j,j<k->bB (F j)=true)(d:r9 k F D)(e:oc q F k a):fA (Rb q D a.L a.T) a.m:=λj g=>by
 obtain⟨f,f1,n,h,i,_⟩:=e j g
 have l:(a.T j).toNat=f:=O
 obtain⟨⟨o,p,r⟩,_⟩:=jx (b f f1)
 obtain⟨d1,t⟩:=d f f1
 have s:=xi c (b f f1) h
 unfold Rb
 rw[l,i]
 split
 ·omega
 ·exact s
theorem xl{q:Query}{k:Nat}{F:Nat->ay}{D:Nat->Int}{a:bj}(b:eU q=true)(c:∀j,j<k->bB (F j)=true)(d:r9 k F D)(e:oc q F k a)(f:a.m<=1000):bX (yd q F D a) (uq q F D a)=true:=by
 have:=jV (uG q F D a.T) a.m
 refine dn ?_ (fR (UK b c d e))
 show aP _ _<=1000
 omega
theorem Oj(q:Query)(k:Nat)(F:Nat->ay)(D:Nat->Int)(n:Nat)(X:Nat->bj)(i:Nat)(hi:i<n)(t:n<=1000000)(b:ct q=true)(g:k<=1000)(d:∀j,j<k->bB (F j)=true)(l:r9 k F D)(e:(X i).m<=1000)(f:oc q F k (X i))(j:Int)(u:j=(i:Int))(Q:Prop)(hQ:Q):
  kr [Hl q] [(15001,16,Rf q k F D n X (dK X) (jy q F D X) j.toNat j (X j.toNat) (uq q F D (X j.toNat)) (λa=>aP (uG q F D (X j.toNat).T) a.toNat) 0,Rg q k F D n X (dK X) (jy q F D X) j.toNat j (X j.toNat) (uq q F D (X j.toNat)) (yd q F D (X j.toNat)))] 14 11001 15 (Rc q k F D n X (dK X) (jy q F D X) Int.toNat) (λ_=>Re q n (dK X) (jy q F D X)) (λi=>i+1) Q j:=by
 rw[Hn]
 have o:Int.toNat j=i:=O
 have p:Int.toNat (j+1)=i+1:=O
 have v:Int.ofNat n=(n:Int):=rfl
 rw[o,p]
 have lp:=Rk q k F D n X (dK X) (jy q F D X) i j (X i) b g e d f
 have r:=xl (mY b).2.2 d l f e
 have ha:(decide (0<=j)&&decide (j<Int.ofNat n))=true:=by simp only[bf,bn];omega
 have rows:=AZ q.ng (dK X) (dK X) (jy q F D X) (jy q F D X) i i A A
 have rr:=eP i q.ng (dK X) (jy q F D X)
 have fr:=gU k F
 have dr:=bL k D
 have tr:=S0 n q.ng X
 have wr:=bL q.ng (X i).W
 have sr:an (X i).m (bi (X i).L (X i).G (X i).C) (bi (X i).L (X i).G (X i).C):=λa _ σ=>kS _ _ _ σ a
 have mr:=bL (X i).m (X i).T
 have s:(decide (i<=i)&&true&&true&&decide ((i+1)*152<=140737488355328)&&true)=true:=by rw[bW (dw i),bW (O:(i+1)*152<=140737488355328)];rfl
 have c:aN .i64 (j+1)=true:=aq O O
 have a1:(((List.range (yd q F D (X i))).all λa=>bt.free (ae (uq q F D (X i)) a))&&decide (yd q F D (X i)<=yd q F D (X i)))=true:=by
  rw[bW (dw _),Bool.and_true];exact List.all_eq_true.2 λ_ _=>rfl
 have a2:((qT q [.az q.nw 3 (au q.C),.az q.ng 1 (aR q.G),.int .i64 q.a,.int .i64 q.fl,.str q.nu,.str q.de,.int .i64 q.top]&&ct q&&(List.range (yd q F D (X i))).all λ_=>true)&&bX (yd q F D (X i)) λa=>uq q F D (X i) a)=true:=by
  rw[jv,b]
  show(((List.range (yd q F D (X i))).all λ_=>true)&&bX (yd q F D (X i)) (uq q F D (X i)))=true
  rw[r,Bool.and_true];exact List.all_eq_true.2 λ_ _=>rfl
 refine Zg (λ_=>cC _ _ ha ⟨lp,?_⟩) λh=>absurd h O
 repeat' (first|with_reducible refine Zf A ?_|with_reducible refine YG A ?_|with_reducible refine Zi A ?_|with_reducible refine And.intro ?_ ?_|with_reducible exact bC _ _|with_reducible exact bO _ _|with_reducible exact aZ|with_reducible exact fr|with_reducible exact dr|with_reducible exact tr|with_reducible exact rr|with_reducible exact wr|with_reducible exact sr|with_reducible exact mr|with_reducible refine cC _ _ a1 ?_|with_reducible refine cC _ _ a2 ?_|with_reducible refine cC _ _ s ?_|with_reducible refine cC _ _ c ?_|with_reducible exact hQ|exact rows)
theorem UL(q:Query)(k:Nat)(F:Nat->ay)(D:Nat->Int)(n:Nat)(X:Nat->bj)(V:Nat->Int)(a:Int->Nat)(b:Nat)(j:Int)(d:j=(n:Int))(Q:Prop):
  kr [Hl q] [(15001,16,Rf q k F D n X (dK X) (jy q F D X) j.toNat j (X j.toNat) V a 0,Rg q k F D n X (dK X) (jy q F D X) j.toNat j (X j.toNat) V b)] 14 11001 15 (Rc q k F D n X (dK X) (jy q F D X) Int.toNat) (λ_=>Re q n (dK X) (jy q F D X)) (λi=>i+1) Q j:=by
 rw[Hn]
 have c:Int.toNat j=n:=O
 have e:Int.ofNat n=(n:Int):=rfl
 rw[c]
 have rr:=eP n q.ng (dK X) (jy q F D X)
 refine Zg (λh=>absurd h O) (λ_=>?_)
 repeat' (with_reducible first|refine Zf A ?_|refine YG A ?_|refine Zi A ?_|refine And.intro ?_ ?_|exact bC _ _|exact bO _ _|exact aZ|exact rr|exact trivial)
theorem Rl(q:Query)(k:Nat)(F:Nat->ay)(D:Nat->Int)(n:Nat)(X:Nat->bj)(b:n<=1000000)(d:ct q=true)(e:k<=1000)(f:∀j,j<k->bB (F j)=true)(g:r9 k F D)(l:∀i,i<n->(X i).m<=1000)(o:∀i,i<n->oc q F k (X i)):
  Zu PP II false (aD II 14 11001) 15 (Rc q k F D n X (dK X) (jy q F D X) Int.toNat 0) (Re q n (dK X) (jy q F D X)):=by
 have key:=Zu.Vk (ι:=Int) iw [Hl q] 1000 (λj=>[(15001,16,Rf q k F D n X (dK X) (jy q F D X) j.toNat j (X j.toNat) (uq q F D (X j.toNat)) (λa=>aP (uG q F D (X j.toNat).T) a.toNat) 0,Rg q k F D n X (dK X) (jy q F D X) j.toNat j (X j.toNat) (uq q F D (X j.toNat)) (yd q F D (X j.toNat)))]) (c:=aD II 14 11001) (ir:=false) 15 (λj=> ∃i:Nat,j=(i:Int)/\i<=n) (λj=>Rc q k F D n X (dK X) (jy q F D X) Int.toNat j) (λ_=>Re q n (dK X) (jy q F D X)) (λj=>n-j.toNat) (λj=>j+1) 0 A ⟨0,rfl,Nat.zero_le _⟩ λj p=>?_
 ·exact key
 obtain⟨i,hi,r⟩:=p
 by_cases h:i<n
 ·exact Oj q k F D n X i h b d e f g (l i h) (o i h) j hi _ ⟨⟨i+1,O,O⟩,O,rfl⟩
 ·exact UL q k F D n X _ _ _ j O _
def Bf(q:Query)(F:Nat->ay)(D:Nat->Int)(X:Nat->bj):Nat->Nat->List UInt8:=nV (aX q.ng (dK X) (jy q F D X))
def sb(q:Query)(k:Nat)(F:Nat->ay)(D:Nat->Int):Nat:=ju q (aV q F k).length (Bf q F D (og q (aV q F k)))
def FV(q:Query)(k:Nat)(F:Nat->ay)(D:Nat->Int)(j:Nat):Nat->Int:=dK (og q (aV q F k)) (cS q (aV q F k).length (Bf q F D (og q (aV q F k))) j)
def xm(q:Query)(k:Nat)(F:Nat->ay)(D:Nat->Int)(j:Nat):Nat->List UInt8:=jy q F D (og q (aV q F k)) (cS q (aV q F k).length (Bf q F D (og q (aV q F k))) j)
def UM(q:Query)(k:Nat)(F:Nat->ay)(D:Nat->Int):AV:=.bK [.az (sb q k F D) 9 (aX q.ng (FV q k F D) (xm q k F D)),.int .i64 0]
theorem JX{q:Query}{k:Nat}{F:Nat->ay}{D:Nat->Int}(n:Nat)(X:Nat->bj)(d:ct q=true)(c:cX k F=true)(e:Zu PP II false (aD II 14 4001) 15 (SY q k F D 0) (SZ q k F D))(f:(aV q F k).length=n)(tr:an n (lX q.ng n (fj q.ng (aV q F k))) (qN q.ng X))(b:n<=1000000)(Zn:Ft n (Bf q F D X)=true)
  (lp:Zu PP II false (aD II 14 11001) 15 (Rc q k F D n X (dK X) (jy q F D X) Int.toNat 0) (Re q n (dK X) (jy q F D X))):kq [u5 q,uT,rZ q,Hg] [(4001,15,SY q k F D 0,SZ q k F D),(11001,15,Rc q k F D n X (dK X) (jy q F D X) Int.toNat 0,Re q n (dK X) (jy q F D X))] 14 [.agg (aY q),cm k F,.az k 1 (ae D)]
   (λa=> ∀σ,AV.le σ a (.bK [.az (ju q n (Bf q F D X)) 9 (aX q.ng (λj=>dK X (cS q n (Bf q F D X) j)) λj=>jy q F D X (cS q n (Bf q F D X) j)),.int .i64 0])):=by
 have o:=jS c
 obtain⟨r1,g,p⟩:=mY d
 rw[Oi q k F D n X (dK X) (jy q F D X) Int.toNat,uo,jv,d,c,Ob,Hj,f,jt r1 g,ZK,Hi]
 rw[show nV (aX q.ng (dK X) (jy q F D X))=Bf q F D X from rfl,Zn]
 have l:ie k (λi=>aF (F i))=true:=by
  unfold ie
  rw[gr,Bool.true_and]
  exact List.all_eq_true.2 λi hi=>jR c i (List.mem_range.1 hi)
 have fl:=gU k F
 have dr:=bL k D
 have a1:(Nat.beq n n&&bt.free (aY q)&&true)=true:=by rw[ni];rfl
 have a2:(true&&true&&true&&Nat.ble n 1000000)=true:=by rw[kV b];rfl
 have m:(true&&true&&Nat.ble k 1000000&&ie k λi=>aF (F i))=true:=by rw[l,kV (O:k<=1000000)];rfl
 refine cC _ _ A (cC _ _ (by rw[gr,bW (O:k<=1000000)];rfl) (Zh (λh=>zE) λ_=>wA A ⟨e,?_⟩))
 repeat' (first|with_reducible refine Zf A ?_|with_reducible refine YG A ?_|with_reducible refine Zi A ?_|with_reducible exact lp|with_reducible refine And.intro ?_ ?_|with_reducible exact bC _ _|with_reducible exact bO _ _|with_reducible exact aZ|with_reducible exact fl|with_reducible exact dr|with_reducible exact tr|with_reducible refine cC _ _ m ?_|with_reducible refine cC _ _ a2 ?_|with_reducible refine cC _ _ a1 ?_|refine cC _ _ a1 ?_)
 exactλσ=>⟨⟨rfl,rfl,λi _=>⟨⟨rfl,rfl,λj _=>⟨⟨rfl,rfl⟩,trivial⟩⟩,rfl,rfl,rfl,rfl,rfl,rfl,rfl,rfl,trivial⟩⟩,⟨rfl,rfl⟩,trivial⟩
theorem xn{q:Query}{k:Nat}{F:Nat->ay}{D:Nat->Int}(a:ct q=true)(b:cX k F=true)(c:r9 k F D):af PP II 14 [.agg (aY q),cm k F,.az k 1 (ae D)] HR (.ret (UM q k F D) HR):=by
 have h:=jS b
 have d:=jR b
 have e:=(lG q F k).len
 have hX:=tm (mY a).2.2 b
 have f:∀i,i<(aV q F k).length->oc q F k (og q (aV q F k) i):=λi hi=>Ho q F k hi
 have g:=Rj q k F D O c
 have lp:=Rl q k F D (aV q F k).length (og q (aV q F k)) O a O d c (λi hi=>(hX i hi).1) f
 refine qh (JX _ _ a b g A (qM _ _ _) O ?_ lp)
 refine List.all_eq_true.2 λi hi=>?_
 have hi:=List.mem_range.1 hi
 have:=cz (xl (mY a).2.2 d c (f i hi) (hX i hi).1) (mY a).2.2
 show(bJ (c8 q _ _) (da q _ _)&&bJ (c8 q _ _) (da q _ _))=true
 rw[this];rfl
end Go.Sx
end
section
set_option maxRecDepth 1000000
namespace Go.Sx
open Go
def tp(k:Nat)(F:Nat->ay)(D:Nat->Int):Bool:=(List.range k).all λj=>decide ((F j).l<=D j)&&decide (D j<=(F j).h)
theorem pM{k:Nat}{F:Nat->ay}{D:Nat->Int}(h:tp k F D=true):r9 k F D:=λj a=>by
 have:=List.all_eq_true.1 h j (List.mem_range.2 a)
 simpa only[bf,bn]using this
end Go.Sx
end
section
set_option maxRecDepth 1000000
namespace Go.Sx
open Go Go.Sort Go.Shelf Go.Proofs
def JY(le:Int->Int->Bool)(a:Int):List Int->List Int
 |[]=>[a]
 |b::l=>bif le a b then a::b::l else b::JY le a l
def zg(le:Int->Int->Bool):List Int->List Int
 |[]=>[]
 |a::l=>JY le a (zg le l)
theorem tq(le:Int->Int->Bool)(a:Int):∀l,(JY le a l).Perm (a::l)
 |[]=>List.Perm.refl _
 |b::l=>by
  unfold JY
  cases le a b with
  |true=>exact List.Perm.refl _
  |false=>exact((tq le a l).cons b).trans (List.Perm.swap a b l)
theorem xo(le:Int->Int->Bool):∀l,(zg le l).Perm l
 |[]=>List.Perm.refl _
 |a::l=>(tq le a _).trans ((xo le l).cons a)
theorem zj{le:Int->Int->Bool}{r:Int->Int->Prop}(g:∀x y,le x y=true↔r x y)(tr:∀x y c,r x y->r y c->r x c)(d:∀x y,r x y∨r y x)(a:Int):∀{l:List Int},l.Pairwise r->(JY le a l).Pairwise r
 |[],_=>List.pairwise_singleton _ _
 |b::l,h=>by
  rw[List.pairwise_cons]at h
  unfold JY
  cases i:le a b with
  |true=>
   have f:=(g _ _).1 i
   exact List.pairwise_cons.2 ⟨λx hx=>by rcases List.mem_cons.1 hx with rfl|hx;exact f;exact tr _ _ _ f (h.1 x hx),List.pairwise_cons.2 h⟩
  |false=>
   have j:r b a:=(d a b).elim (λe=>by rw[(g _ _).2 e]at i;cases i) id
   exact List.pairwise_cons.2 ⟨λx hx=>by rcases List.mem_cons.1 ((tq le a l).mem_iff.1 hx)with rfl|hx;exact j;exact h.1 x hx,zj g tr d a h.2⟩
theorem xp{le:Int->Int->Bool}{r:Int->Int->Prop}(d:∀x y,le x y=true↔r x y)(tr:∀x y b,r x y->r y b->r x b)(c:∀x y,r x y∨r y x):∀l,(zg le l).Pairwise r
 |[]=>List.Pairwise.nil
 |a::l=>zj d tr c a (xp d tr c l)
theorem Dr{le:Int->Int->Bool}{r:Int->Int->Prop}(f:∀x y,le x y=true↔r x y)(tr:∀x y c,r x y->r y c->r x c)(e:∀x y,r x y∨r y x)(d:∀x y,r x y->r y x->x=y){l m:List Int}(h:m.Perm l)(g:m.Pairwise r):m=zg le l :=
 List.Perm.eq_of_pairwise (λa b _ _=>d a b) g (xp f tr e l) (h.trans (xo le l).symm)
theorem Bg(x y:Int):ltOf Lib.compareInt x y=decide (x<y):=by
 unfold ltOf Lib.compareInt
 by_cases h:x<y
 ·simp[h]
 ·by_cases a:x=y
  ·simp[a]
  ·simp[h];split<;>omega
theorem gq(k:Nat)(W:Nat->Int):(dp (ltOf Lib.compareInt) k W).Pairwise (· <= ·)/\(dp (ltOf Lib.compareInt) k W).Perm ((List.range k).map W):=by
 unfold dp
 refine⟨?_,List.mergeSort_perm _ _⟩
 refine(List.pairwise_mergeSort (le:=λx y=>!ltOf Lib.compareInt y x) (λa b c d e=>?_) (λa b=>?_) _).imp λh=>?_
 ·simp only[Bg,Bool.not_eq_true',iK]at*;omega
 ·simp only[Bg,Bool.or_eq_true,Bool.not_eq_true',iK];omega
 ·simp only[Bg,Bool.not_eq_true',iK]at h;omega
theorem sd(k:Nat)(W:Nat->Int):(dp (ltOf pP) k W).Pairwise (λx y=>y<=x)/\(dp (ltOf pP) k W).Perm ((List.range k).map W):=by
 have e:∀x y,ltOf pP x y=decide (y<x):=λx y=>Bg y x
 unfold dp
 refine⟨?_,List.mergeSort_perm _ _⟩
 refine(List.pairwise_mergeSort (le:=λx y=>!ltOf pP y x) (λa b c d f=>?_) (λa b=>?_) _).imp λh=>?_
 ·simp only[e,Bool.not_eq_true',iK]at*;omega
 ·simp only[e,Bool.or_eq_true,Bool.not_eq_true',iK];omega
 ·simp only[e,Bool.not_eq_true',iK]at h;omega
def YK(k:Nat)(W:Nat->Int)(i:Nat):Int:=(zg (λx y=>decide (x<=y)) ((List.range k).map W)).getD i 0
def YL(k:Nat)(W:Nat->Int)(i:Nat):Int:=(zg (λx y=>decide (y<=x)) ((List.range k).map W)).getD i 0
theorem tu:bQ=YK:=by
 funext k W i
 unfold bQ YK
 rw[Dr (r:=(· <= ·)) (le:=λx y=>decide (x<=y)) (λx y=>decide_eq_true_iff) (λ_ _ _=>Int.le_trans) Int.le_total (λ_ _=>Int.le_antisymm) (gq k W).2 (gq k W).1]
theorem tw:cK=YL:=by
 funext k W i
 unfold cK YL
 rw[Dr (r:=λx y=>y<=x) (le:=λx y=>decide (y<=x)) (λx y=>decide_eq_true_iff) (λ_ _ _ a b=>Int.le_trans b a) (λx y=>Int.le_total y x) (λ_ _ a b=>Int.le_antisymm b a) (sd k W).2 (sd k W).1]
end Go.Sx
end
section
namespace Go.Sx
theorem Ds{P:Int->Bool}:∀{l:List Int},l.Pairwise (λa b=>P b=true->P a=true)->∀s,(l.take s).countP P=min s (l.countP P)
 |[],_,s=>zA
 |a::l,h,0=>zA
 |a::l,h,s+1=>by
  obtain⟨c,d⟩:=List.pairwise_cons.1 h
  rw[List.take_succ_cons,List.countP_cons,List.countP_cons,Ds d s]
  cases ha:P a with
  |true=>simp only[if_true];omega
  |false=>
   have:l.countP P=0:=List.countP_eq_zero.2 λb f e=>by
    have:=c b f e
    rw[ha]at this;cases this
   rw[this];simp
theorem tx{α:Type}(P Q:α->Bool):∀l:List α,l.countP P=l.countP (λa=>P a&&Q a)+l.countP λa=>P a && !Q a
 |[]=>rfl
 |a::l=>by
  rw[List.countP_cons,List.countP_cons,List.countP_cons,tx P Q l]
  cases P a<;>cases Q a<;>simp<;>omega
theorem Ol{r:List Nat}{p C:Nat->Bool}{L T:Nat->Int}{P:Int->Bool}{M:List Int}(f:∀j,j∈r->C j=true->p j=true)(hL:∀j,j∈r->p j=true->P (T j)=true->P (L j)=true)(d:M.Pairwise λa b=>P b=true->P a=true)(e:M.Perm ((r.filter λj=>!C j).map L)):
  ((r.filter p).map T).countP P<=((r.filter C).map L++M.take (r.countP λj=>p j && !C j)).countP P:=by
 rw[List.countP_append,Ds d,e.countP_eq,List.countP_map,List.countP_map,List.countP_map,List.countP_filter,List.countP_filter,List.countP_filter]
 refine Nat.le_trans (List.countP_mono_left (q:=λj=>P (L j)&&p j) λj c h=>?_) ?_
 ·simp only[Function.comp,bf]at h⊢
  exact⟨hL j c h.2 h.1,h.2⟩
 ·rw[tx (λj=>P (L j)&&p j) C]
  refine Nat.add_le_add (List.countP_mono_left λj c h=>?_) (Nat.le_min.2 ⟨List.countP_mono_left λj c h=>?_,List.countP_mono_left λj c h=>?_⟩)
  ·simp only[Function.comp,bf]at h⊢
   exact⟨h.1.1,h.2⟩
  ·simp only[Function.comp,bf]at h⊢
   exact⟨h.1.2,h.2⟩
  ·simp only[Function.comp,bf]at h⊢
   exact⟨h.1.1,h.2⟩
theorem tz{r:List Nat}{p C:Nat->Bool}{L T:Nat->Int}{M:List Int}(b:∀j,j∈r->C j=true->p j=true)(c:M.length=(r.filter λj=>!C j).length):
  ((r.filter C).map L++M.take (r.countP λj=>p j && !C j)).length=((r.filter p).map T).length/\(r.countP λj=>p j && !C j)<=M.length:=by
 rw[List.length_append,List.length_map,List.length_map,List.length_take,c,<-List.countP_eq_length_filter,<-List.countP_eq_length_filter,<-List.countP_eq_length_filter]
 have d:(r.countP λj=>p j && !C j)<=r.countP λj=>!C j:=List.countP_mono_left λj a h=>by
  simp only[bf]at h
  exact h.2
 have e:r.countP C=r.countP λj=>p j&&C j:=List.countP_congr λj a=>by
  simp only[bf]
  exact⟨λh=>⟨b j a h,h⟩,λh=>h.2⟩
 have:=tx p C r
 omega
structure Dm (l m:List Int):Prop where
 len:l.length=m.length
 Xu:∀x:Int,m.countP (λa=>decide (a<=x))<=l.countP λa=>decide (a<=x)
theorem Dm.up{l m:List Int}(h:l.length=m.length)(k:∀x:Int,l.countP (λy=>decide (x<y))<=m.countP λy=>decide (x<y)):Dm l m where
 len:=h
 Xu x:=by
  have e:∀n:List Int,n.length=n.countP (λy=>decide (x<y))+n.countP λy=>decide (y<=x):=λn=>by
   rw[List.length_eq_countP_add_countP (λy=>decide (x<y))]
   congr 1
   exact List.countP_congr λy _=>zA
  have:=k x
  have a:=e l
  have b:=e m
  omega
theorem Dm.perm{l a m b:List Int}(h:Dm l m)(hl:a.Perm l)(c:b.Perm m):Dm a b:=⟨by rw[hl.length_eq,c.length_eq,h.len],λx=>by rw[hl.countP_eq,c.countP_eq];exact h.Xu x⟩
theorem Dm.at{l m:List Int}(h:Dm l m)(hl:l.Pairwise (· <= ·))(t:m.Pairwise (· <= ·))(i:Nat):l.getD i 0<=m.getD i 0:=by
 by_cases hi:i<l.length
 ·have a:i<m.length:=h.len▸hi
  rw[List.getD_eq_getElem?_getD,List.getD_eq_getElem?_getD,mo hi,mo a]
  show l[i]<=m[i]
  refine Int.not_lt.1 λu=>?_
  have c:=h.Xu m[i]
  have v:l.countP (λy=>decide (y<=m[i]))<=i:=by
   rw[<-List.take_append_drop i l,List.countP_append]
   have:(l.drop i).countP (λy=>decide (y<=m[i]))=0:=List.countP_eq_zero.2 λb f e=>by
    have e:=pT e
    obtain⟨j,o,d⟩:=List.mem_iff_getElem.1 f
    rw[List.getElem_drop]at d
    rw[List.length_drop]at o
    have:l[i]<=b:=by
     rw[<-d]
     rcases Nat.eq_zero_or_pos j with s|s
     ·subst s;exact Int.le_refl _
     ·exact List.pairwise_iff_getElem.1 hl i (i+j) hi O O
    omega
   have:=List.countP_le_length (p:=λy=>decide (y<=m[i])) (l:=l.take i)
   rw[List.length_take]at this
   omega
  have w:i+1<=m.countP (λy=>decide (y<=m[i])):=by
   have q:∀P:Int->Bool,m.countP P=(m.take (i+1)).countP P+(m.drop (i+1)).countP P:=λP=>by rw[<-List.countP_append,List.take_append_drop]
   rw[q]
   have:(m.take (i+1)).countP (λy=>decide (y<=m[i]))=(m.take (i+1)).length:=List.countP_eq_length.2 λb f=>by
    obtain⟨j,o,d⟩:=List.mem_iff_getElem.1 f
    rw[List.getElem_take]at d
    rw[List.length_take]at o
    rw[bn,<-d]
    by_cases e:j=i
    ·subst e;exact Int.le_refl _
    ·exact List.pairwise_iff_getElem.1 t j i O a O
   rw[List.length_take]at this
   omega
  omega
 ·have a :¬ i<m.length:=h.len▸hi
  rw[List.getD_eq_getElem?_getD,List.getD_eq_getElem?_getD,List.getElem?_eq_none (Nat.le_of_not_lt hi),List.getElem?_eq_none (Nat.le_of_not_lt a)]
  exact Int.le_refl _
theorem Om:∀{l m:List Int},l.length=m.length->(∀i,l.getD i 0<=m.getD i 0)->l.sum<=m.sum
 |[],[],_,_=>Int.le_refl _
 |a::l,b::m,h,k=>by
  have c:=Om (l:=l) (m:=m) (by simpa using h) λi=>k (i+1)
  have d:a<=b:=k 0
  rw[List.sum_cons,List.sum_cons];omega
theorem Dt{l m:List Int}(h:l.Perm m):l.sum=m.sum:=by
 induction h with
 |nil=>rfl
 |cons x _ a=>rw[List.sum_cons,List.sum_cons,a]
 |swap x y l=>simp only[List.sum_cons];omega
 |trans _ _ h1 b=>exact h1.trans b
theorem xq(W:Nat->Int):∀k,du W k=((List.range k).map W).sum
 |0=>rfl
 |k+1=>by
  show du W k+W k=_
  rw[List.range_succ,List.map_append,List.sum_append,xq W k];simp
theorem xu(W:Nat->Int):∀k j,j<k->W j<=cG W k
 |k+1,j,a=>by
  show W j<=if W k>cG W k then W k else cG W k
  by_cases e:j=k
  ·subst e;split<;>omega
  ·have:=xu W k j O
   split<;>omega
theorem Rm(q:Query)(k:Nat)(a b:Nat->Int):(jO q k a).2=(jO q k b).2:=by
 unfold jO
 repeat' split
 all_goals rfl
theorem u9(q:Query)(k:Nat)(a:Nat->Int):0<(jO q k a).2:=by
 unfold jO
 repeat' split
 all_goals first|exact Nat.one_pos|(show 0<k;omega)
theorem On(q:Query)(k:Nat){a d:Nat->Int}(h:Dm ((List.range k).map a) ((List.range k).map d)):(jO q k a).1<=(jO q k d).1:=by
 have up:∀i,bQ k a i<=bQ k d i:=(h.perm (gq k a).2 (gq k d).2).at (gq k a).1 (gq k d).1
 have m:du a k<=du d k:=by
  rw[xq,xq,<-Dt (gq k a).2,<-Dt (gq k d).2]
  refine Om ?_ up
  rw[(gq k a).2.length_eq,(gq k d).2.length_eq,h.len]
 unfold jO
 split
 ·exact dw _
 split
 ·exact dw _
 split
 ·show(du a k).toNat<=(du d k).toNat
  omega
 split
 ·show(du a k).toNat<=(du d k).toNat
  omega
 split
 ·have:cG a k<=cG d k:=by
   obtain⟨j,f,e⟩:=pH a k O
   rw[e]
   have c:=h.Xu (cG d k)
   have n:((List.range k).map d).countP (λy=>decide (y<=cG d k))=((List.range k).map d).length:=List.countP_eq_length.2 λb g=>by
    obtain⟨i,hi,rfl⟩:=List.mem_map.1 g
    exact bW (xu d k i (List.mem_range.1 hi))
   have o:=List.countP_le_length (p:=λy=>decide (y<=cG d k)) (l:=(List.range k).map a)
   have hl:=h.len
   have c3:((List.range k).map a).countP (λy=>decide (y<=cG d k))=((List.range k).map a).length:=O
   exact pT (List.countP_eq_length.1 c3 (a j) (List.mem_map.2 ⟨j,List.mem_range.2 f,rfl⟩))
  show(cG a k).toNat<=(cG d k).toNat
  omega
 ·have:=up (lC q.nu q.de k).toNat
  show(iD q.nu q.de k a).toNat<=(iD q.nu q.de k d).toNat
  unfold iD
  omega
end Go.Sx
end
