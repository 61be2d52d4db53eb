/- The proof of a statement of the seat, part 41. -/
import Derived.Test.YtoijalagmmgkbaaGreatDoorX40
set_option linter.all false
set_option linter.defProp false
section
set_option maxRecDepth 1000000
namespace Go.Sx
open Go
end Go.Sx
end
section
set_option maxRecDepth 1000000
namespace Go.Sx
open Go
end Go.Sx
end
section
set_option maxRecDepth 1000000
namespace Go.Sx
open Go
end Go.Sx
end
section
set_option maxRecDepth 1000000
namespace Go.Sx
open Go
end Go.Sx
end
section
set_option maxRecDepth 100000
namespace Go.Sx
open Go
def TG(q:Query):Query:=⟨q.nw,q.C,q.ng,q.G,q.a,q.fl,q.nu,q.de,0⟩
theorem TM{q:Query}(h:ct q=true):ct (TG q)=true:=by
 obtain⟨b,c,a⟩:=mY h
 unfold ct
 have d:eU (TG q)=true:=by
  unfold eU at a⊢
  simp only[bf]at a⊢
  exact⟨⟨a.1.1,rfl⟩,a.2⟩
 rw[show aI 3 (TG q).nw (au (TG q).C)=true from b,show aI 1 (TG q).ng (aR (TG q).G)=true from c,d];rfl
end Go.Sx
end
section
set_option maxRecDepth 1000000
namespace Go.Sx
open Go
def tl(q:Query)(t:Int):Query:=⟨q.nw,q.C,q.ng,q.G,q.a,q.fl,q.nu,q.de,t⟩
structure Dq (b:Query) (nw:Nat) (f:Nat->List AV):Prop where
 n:nw=b.nw
 fr:∀i,i<nw->∃a,a<b.nw/\f i=au b.C a
 bk:∀a,a<b.nw->∃i,i<nw/\f i=au b.C a
theorem Dq.self(q:Query):Dq q q.nw (au q.C):=⟨rfl,λi hi=>⟨i,hi,rfl⟩,λj a=>⟨j,a,rfl⟩⟩
theorem Jv{q:Query}{nw:Nat}{f:Nat->List AV}(h:Dq q nw f)(t:Int):Alike (tl q t) (R4 nw f q.ng (aR q.G) q.a q.fl q.nu q.de t) where
 ng:=rfl
 G:=rfl
 a:=rfl
 fl:=rfl
 nu:=rfl
 de:=rfl
 ok x d:=by
  have row:∀i j,f i=au q.C j->gG (R4 nw f q.ng (aR q.G) q.a q.fl q.nu q.de t) x d i=gG (tl q t) x d j:=λi j e=>by
   unfold gG
   show Nn (bV (f i) 1) (gJ x (bV (f i) 0) d) (bV (f i) 2)=_
   rw[e];rfl
  refine Bool.eq_iff_iff.2 ?_
  rw[Il,Il]
  refine and_congr_right λ_=>⟨λk i hi=>?_,λk j b=>?_⟩
  ·obtain⟨j,b,e⟩:=h.fr i hi
   rw[row i j e];exact k j b
  ·obtain⟨i,hi,e⟩:=h.bk j b
   rw[<-row i j e];exact k i hi
theorem P3{q:Query}{nw:Nat}{f:Nat->List AV}(h:Dq q nw f){t:Int}(hq:ct (tl q t)=true){k:Nat}{F:Nat->ay}(g:cX k F=true){RN:Int->Nat}{RA:Int->Nat->Nat->Int}{RB:Int->Nat->Nat->List UInt8}
  (p:r8 (tl q t) k F=RN t) (r:FM (tl q t) k F=RA t) (s:oU (tl q t) k F=RB t):
  OK RN RA RB nw f q.ng (aR q.G) q.a q.fl q.nu q.de t k (λi=>aF (F i))=true:=by
 obtain⟨u,v,b⟩:=mY hq
 have w:aI 3 nw f=true:=List.all_eq_true.2 λi hi=>by
  obtain⟨j,d,e⟩:=h.fr i (List.mem_range.1 hi)
  rw[e];exact c7 u d
 have l:eU (R4 nw f q.ng (aR q.G) q.a q.fl q.nu q.de t)=true:=by
  obtain⟨_,c⟩:=fQ b
  unfold eU at b⊢
  simp only[bf]at b⊢
  refine⟨⟨⟨⟨⟨?_,b.1.1.1.1.2⟩,?_⟩,b.1.1.2⟩,b.1.2⟩,b.2⟩
  ·have:=b.1.1.1.1.1
   show decide (nw<=6)=true
   rw[h.n];exact this
  ·refine List.all_eq_true.2 λi hi=>?_
   obtain⟨j,d,e⟩:=h.fr i (List.mem_range.1 hi)
   have:=c j d
   show(decide (1<=bV (f i) 0)&&decide (bV (f i) 0<=8)&&decide (1<=bV (f i) 1)&&decide (bV (f i) 1<=4)&&decide (-1<=bV (f i) 2)&&decide (bV (f i) 2<=4398046511104))=true
   rw[e]
   show(decide (1<=q.C j 0)&&decide (q.C j 0<=8)&&decide (1<=q.C j 1)&&decide (q.C j 1<=4)&&decide (-1<=q.C j 2)&&decide (q.C j 2<=4398046511104))=true
   simp only[bf,bn]
   obtain⟨⟨a1,a2⟩,⟨x,a4⟩,y,D⟩:=this
   exact⟨⟨⟨⟨⟨a1,a2⟩,x⟩,a4⟩,y⟩,D⟩
 obtain⟨r1,m,o⟩:=TD (Jv h t) rfl b l (k:=k) (F:=F) (jR g)
 rw[p]at r1
 rw[r]at m
 rw[s]at o
 exact JW.2 ⟨⟨w,v,l,gr k F,g⟩,r1.symm,m.symm,o.symm⟩
theorem TO{q p:Query}(h:Alike q p)(ht:q.top=p.top)(hq:eU q=true)(e:eU p=true){k:Nat}{F:Nat->ay}(f:∀j,j<k->bB (F j)=true)(D:Nat->Int):sb q k F D=sb p k F D/\FV q k F D=FV p k F D/\xm q k F D=xm p k F D:=by
 have t:=Dl h hq e F k f
 obtain⟨_,_,a1,a2⟩:=OJ h
 obtain⟨a,_,_⟩:=Lt h
 obtain⟨g,c⟩:=Sz ht
 have l:uG q F D=uG p F D:=by funext T j;exact h.ok _ _
 have m:Rb q D=Rb p D:=by funext L T j;unfold Rb;rw[h.fl]
 have d:jy q F D=jy p F D:=by
  funext X i k
  unfold jy yd uq
  rw[a1,a2,l,m]
 have b:Bf q F D=Bf p F D:=by funext X;unfold Bf;rw[h.ng,d]
 refine⟨?_,?_,?_⟩
 ·unfold sb;rw[t,a,b,g]
 ·funext j;unfold FV;rw[t,a,b,c]
 ·funext j;unfold xm;rw[t,a,b,c,d]
theorem Ss{q:Query}{nw:Nat}{f:Nat->List AV}(h:Dq q nw f){t:Int}(hq:ct (tl q t)=true){k:Nat}{F:Nat->ay}(l:cX k F=true){D:Nat->Int}(m:tp k F D=true){RN:Int->Nat}{RA:Int->Nat->Nat->Int}{RB:Int->Nat->Nat->List UInt8}{c:(Nat->Int)->Nat}{d:(Nat->Int)->Nat->Nat->Int}{e:(Nat->Int)->Nat->Nat->List UInt8}
  (b:OK RN RA RB nw f q.ng (aR q.G) q.a q.fl q.nu q.de t k (λi=>aF (F i))=true) (n:sb (tl q t) k F D=c D) (o:FV (tl q t) k F D=d D) (p:xm (tl q t) k F D=e D):
  OQ c d e nw f q.ng (aR q.G) q.a q.fl q.nu q.de t k (λi=>aF (F i)) k (ae D)=true:=by
 have b:=(JW.1 b).1
 obtain⟨r1,g,j⟩:=TO (Jv h t) rfl (mY hq).2.2 b.2.2.1 (jR l) D
 rw[n]at r1
 rw[o]at g
 rw[p]at j
 exact OR.2 ⟨b,⟨rfl,kc _ _,m⟩,r1.symm,g.symm,j.symm⟩
end Go.Sx
end
section
set_option maxRecDepth 1000000
namespace Go.Sx
open Go
def zr(b:Int->Bool)(R:Nat->Nat->List UInt8×List UInt8)(n i c:Nat):List UInt8:=match n with
 |0=>[]
 |m+1=>match c with
  |0=>(aS b (λj=>R j i) m).1
  |_=>(aS b (λj=>R j i) m).2
def Hp(b:Int->Bool)(R:Nat->Nat->List UInt8×List UInt8)(n:Nat)(i:Int)(j:Nat):Nat->List UInt8:=if j<i.toNat then zr b R (n+1) j else zr b R n j
theorem Tg(b:Int->Bool)(R:Nat->Nat->List UInt8×List UInt8)(i:Nat):zr b R 1 i 0=(R 0 i).1/\zr b R 1 i 1=(R 0 i).2:=⟨rfl,rfl⟩
theorem Wd{b:Int->Bool}{R:Nat->Nat->List UInt8×List UInt8}{n i:Nat}(a:n≠0)(h:b (bw (ao (R n i).1) (ao (R n i).2) (ao (zr b R n i 0)) (ao (zr b R n i 1)))=true):zr b R (n+1) i 0=(R n i).1/\zr b R (n+1) i 1=(R n i).2:=by
 cases n with
 |zero=>exact absurd A a
 |succ m=>
  have e:aS b (λj=>R j i) (m+1)=R (m+1) i:=by
   show(match b _ with|true=>_|false=>_)=_
   rw[show b (bw (ao (R (m+1) i).1) (ao (R (m+1) i).2) (ao (aS b (λj=>R j i) m).1) (ao (aS b (λj=>R j i) m).2))=true from h]
  exact⟨congrArg (·.1) e,congrArg (·.2) e⟩
theorem Wt{b:Int->Bool}{R:Nat->Nat->List UInt8×List UInt8}{n i:Nat}(a:n≠0)(h:b (bw (ao (R n i).1) (ao (R n i).2) (ao (zr b R n i 0)) (ao (zr b R n i 1)))=false):zr b R (n+1) i 0=zr b R n i 0/\zr b R (n+1) i 1=zr b R n i 1:=by
 cases n with
 |zero=>exact absurd A a
 |succ m=>
  have e:aS b (λj=>R j i) (m+1)=aS b (λj=>R j i) m:=by
   show(match b _ with|true=>_|false=>_)=_
   rw[show b (bw (ao (R (m+1) i).1) (ao (R (m+1) i).2) (ao (aS b (λj=>R j i) m).1) (ao (aS b (λj=>R j i) m).2))=false from h]
  exact⟨congrArg (·.1) e,congrArg (·.2) e⟩
theorem Vh(b:Int->Bool)(R:Nat->Nat->List UInt8×List UInt8)(n i:Nat):Hp b R n (i:Int) i=zr b R n i/\Hp b R n ((i:Int)+1) i=zr b R (n+1) i/\∀j,j≠i->Hp b R n ((i:Int)+1) j=Hp b R n (i:Int) j:=by
 unfold Hp
 refine⟨if_neg O,if_pos O,λj a=>?_⟩
 by_cases h:j<i
 ·rw[if_pos O,if_pos O]
 ·rw[if_neg O,if_neg O]
theorem VS{m i:Nat}{a S:Nat->Nat->List UInt8}{x y:List UInt8}(c:S i 0=x)(d:S i 1=y)(b:∀j,j≠i->S j=a j):
  an m (λj=>[AV.str (bif decide (j=0+i)then x else a j 0),AV.str (bif decide (j=0+i)then y else a j 1)]) (gW S):=λj _ σ=>by
 unfold gW
 dsimp only
 by_cases e:j=i
 ·rw[bW (O:j=0+i),cond_true,cond_true,e,c,d];exact⟨rfl,rfl,trivial⟩
 ·rw[nZ (O:¬ j=0+i),cond_false,cond_false,b j e];exact⟨rfl,rfl,trivial⟩
theorem NC{m:Nat}{a S:Nat->Nat->List UInt8}(h:∀j,j<m->S j 0=a j 0/\S j 1=a j 1):an m (gW a) (gW S):=λj b σ=>by
 unfold gW
 rw[(h j b).1,(h j b).2];exact⟨rfl,rfl,trivial⟩
theorem VT{q:Query}{k M:Nat}{F:Nat->ay}(p:Int)(g m:Nat)(N:m<=1000)(t:Nat->Nat->Int)(u:Nat->Nat->List UInt8)(n:Nat)(C:Nat->Nat->Int)(a:Nat->Nat->List UInt8)(R:Nat->Nat->List UInt8×List UInt8)
  (v:∀i,R n i=(a i 0,a i 1)) (E:∀n i,i<m->bJ (R n i).1 (R n i).2=true):
  aE PP II false (aD II 4 32004) 20 (VH q k M F p g m t u n m C a (Hp (λc=>decide (c<0)) R n) (Hp (λc=>decide (c>0)) R n) 0) (VI q k M F p g m t u n (zr (λc=>decide (c<0)) R (n+1)) (zr (λc=>decide (c>0)) R (n+1))):=by
 have key:=aE.of (ι:=Nat) iw [j8] (bm PP II []) 1000 (c:=aD II 4 32004) (ir:=false) 20 (λi=>i<=m) (λi=>VH q k M F p g m t u n m C a (Hp (λc=>decide (c<0)) R n) (Hp (λc=>decide (c>0)) R n) (i:Int)) (λ_=>VI q k M F p g m t u n (zr (λc=>decide (c<0)) R (n+1)) (zr (λc=>decide (c>0)) R (n+1))) (λi=>m-i) (λi=>i+1) 0 A (Nat.zero_le _) λi hi=>?_
 ·exact key
 have hi:i<=m:=hi
 have P:Int.ofNat m=(m:Int):=rfl
 have go:∀Q:Prop,(i<m->Q)->kr [j8] [] 4 32004 20 (VH q k M F p g m t u n m C a (Hp (λc=>decide (c<0)) R n) (Hp (λc=>decide (c>0)) R n)) (λ_=>VI q k M F p g m t u n (zr (λc=>decide (c<0)) R (n+1)) (zr (λc=>decide (c>0)) R (n+1))) (λi=>i+1) Q (i:Int):=λQ hQ=>by
  rw[VJ,show Int.toNat (i:Int)=i from rfl]
  refine Zg (λh=>?_) λh=>?_
  ·have f:i<m:=by omega
   have hq:=hQ f
   have G:(decide ((0:Int)<=i)&&decide ((i:Int)<Int.ofNat m))=true:=by simp only[bf,bn];omega
   have H:(decide (0+i<m))=true:=bW O
   have I:aN .i64 ((i:Int)+1)=true:=aq O O
   rw[G,H,I]
   have J:bJ (a i 0) (a i 1)=true:=by have:=E n i f;rwa[v]at this
   have old:∀b:Int->Bool,n≠0->bJ (Hp b R n i (0+i) 0) (Hp b R n i (0+i) 1)=true:=λb o=>by
    obtain⟨l,rfl⟩:∃l,n=l+1:=⟨n-1,O⟩
    rw[Nat.zero_add,(Vh b R (l+1) i).1]
    obtain⟨j,_,e⟩:=eK (better:=b) (R:=λj=>R j i) l
    show bJ (aS b (λj=>R j i) l).1 (aS b (λj=>R j i) l).2=true
    rw[e];exact E j i f
   have yes:∀b:Int->Bool,(n=0∨b (bw (ao (a i 0)) (ao (a i 1)) (ao (Hp b R n i (0+i) 0)) (ao (Hp b R n i (0+i) 1)))=true)->an m (λj=>[AV.str (bif decide (j=0+i)then a i 0 else Hp b R n i j 0),AV.str (bif decide (j=0+i)then a i 1 else Hp b R n i j 1)]) (gW (Hp b R n ((i:Int)+1))):=λb r=>by
    obtain⟨l1,l2,D⟩:=Vh b R n i
    have:zr b R (n+1) i 0=a i 0/\zr b R (n+1) i 1=a i 1:=by
     rcases r with o|r
     ·subst o
      have:=Tg b R i
      rwa[v]at this
     ·by_cases o:n=0
      ·subst o
       have:=Tg b R i
       rwa[v]at this
      ·rw[Nat.zero_add,l1]at r
       have:=Wd (R:=R) o (by rw[v];exact r)
       rwa[v]at this
    exact VS (by rw[l2];exact this.1) (by rw[l2];exact this.2) D
   have no:∀b:Int->Bool,n≠0->b (bw (ao (a i 0)) (ao (a i 1)) (ao (Hp b R n i (0+i) 0)) (ao (Hp b R n i (0+i) 1)))=false->an m (gW (Hp b R n (i:Int))) (gW (Hp b R n ((i:Int)+1))):=λb o r=>by
    obtain⟨l1,l2,D⟩:=Vh b R n i
    rw[Nat.zero_add,l1]at r
    have:=Wt (R:=R) o (by rw[v];exact r)
    refine NC λj _=>?_
    by_cases e:j=i
    ·rw[e,l2,l1];exact this
    ·rw[D j e];exact⟨rfl,rfl⟩
   by_cases d:n=0
   ·have y1:=yes (λc=>decide (c<0)) (.inl d)
    have y2:=yes (λc=>decide (c>0)) (.inl d)
    have w:((n:Int)=0):=O
    refine Zg (λ_=>cC _ _ A (cC _ _ A (cC _ _ A (Zg (λ_=>?_) λc=>absurd w c)))) λc=>absurd w c
    exact ZJ
   ·have w :¬ ((n:Int)=0):=by omega
    have K:=old (λc=>decide (c<0)) d
    have L:=old (λc=>decide (c>0)) d
    rw[J,K,L,Bool.and_self]
    refine Zg (λc=>absurd c w) λ_=>cC _ _ A (cC _ _ A (cC _ _ A (cC _ _ A (Zg (λx=>cC _ _ A (cC _ _ A (cC _ _ A (Zg (λc=>absurd c w) λ_=>cC _ _ A (cC _ _ A (cC _ _ A (cC _ _ A (Zg (λs=>?_) λs=>?_)))))))) λx=>Zg (λc=>absurd c w) λ_=>cC _ _ A (cC _ _ A (cC _ _ A (cC _ _ A (Zg (λs=>?_) λs=>?_))))))))
    ·have y1:=yes (λc=>decide (c<0)) (.inr (bW x))
     have y2:=yes (λc=>decide (c>0)) (.inr (bW s))
     exact ZJ
    ·have y1:=yes (λc=>decide (c<0)) (.inr (bW x))
     have y2:=no (λc=>decide (c>0)) d (nZ s)
     exact ZJ
    ·have y1:=no (λc=>decide (c<0)) d (nZ x)
     have y2:=yes (λc=>decide (c>0)) (.inr (bW s))
     exact ZJ
    ·have y1:=no (λc=>decide (c<0)) d (nZ x)
     have y2:=no (λc=>decide (c>0)) d (nZ s)
     exact ZJ
  ·have e:i=m:=by omega
   have y:∀b:Int->Bool,an m (gW (Hp b R n (i:Int))) (gW (zr b R (n+1))):=λb=>NC λj S=>by
    unfold Hp
    rw[if_pos O];exact⟨rfl,rfl⟩
   have y1:=y λc=>decide (c<0)
   have y2:=y λc=>decide (c>0)
   repeat' (first|exact y1|exact y2|with_reducible exact trivial|with_reducible rfl|with_reducible exact HA _ _|with_reducible exact eP _ _ _ _|with_reducible exact bC _ _|with_reducible exact bO _ _|with_reducible exact aZ|with_reducible refine YG ?_ ?_|with_reducible refine Zf ?_ ?_|with_reducible refine Zi ?_ ?_|with_reducible refine Ze ?_ ?_|with_reducible refine And.intro ?_ ?_)
 exact go _ λh=>⟨O,O,rfl⟩
end Go.Sx
end
