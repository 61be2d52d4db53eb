/- The proof of a statement of the seat, part 41. -/
import Derived.Test.YtoijalagmmgkbaaGreatDoorX40
import Derived.Test.YtoijalagmmgkbaaGreatDoorX39
set_option linter.all false
set_option linter.defProp false
section
set_option maxRecDepth 1000000
namespace Go.Sx
open Go
def U6(nw:Nat)(f:Nat->List AV)(ng:Nat)(g:Nat->List AV)(a fl:Int)(nu de:List UInt8)(top:Int):Query:=⟨nw,bG f,ng,λj=>bV (g j) 0,a,fl,nu,de,top⟩
def Wh(b:Int->Nat)(c:Int->Nat->Nat->Int)(d:Int->Nat->Nat->List UInt8)(nw:Nat)(f:Nat->List AV)(ng:Nat)(g:Nat->List AV)(a fl:Int)(nu de:List UInt8)(top:Int)(k:Nat)(h:Nat->List AV):Prop :=
 (aI 3 nw f=true/\aI 1 ng g=true/\eU (U6 nw f ng g a fl nu de top)=true/\fh k h=true/\cX k (bP h)=true)/\r8 (U6 nw f ng g a fl nu de top) k (bP h)=b top/\FM (U6 nw f ng g a fl nu de top) k (bP h)=c top/\oU (U6 nw f ng g a fl nu de top) k (bP h)=d top
open Classical in
noncomputable def RC(b:Int->Nat)(c:Int->Nat->Nat->Int)(d:Int->Nat->Nat->List UInt8)(nw:Nat)(f:Nat->List AV)(ng:Nat)(g:Nat->List AV)(a fl:Int)(nu de:List UInt8)(top:Int)(k:Nat)(h:Nat->List AV):Bool:=decide (Wh b c d nw f ng g a fl nu de top k h)
open Classical in
theorem HA{b:Int->Nat}{c:Int->Nat->Nat->Int}{d:Int->Nat->Nat->List UInt8}{nw:Nat}{f:Nat->List AV}{ng:Nat}{g:Nat->List AV}{a fl:Int}{nu de:List UInt8}{top:Int}{k:Nat}{h:Nat->List AV}:RC b c d nw f ng g a fl nu de top k h=true↔Wh b c d nw f ng g a fl nu de top k h:=by
 unfold RC
 exact decide_eq_true_iff
theorem U7{nw:Nat}{f:Nat->List AV}{ng:Nat}{g:Nat->List AV}{a fl:Int}{nu de:List UInt8}{top:Int}(a1:aI 3 nw f=true)(a2:aI 1 ng g=true)(c:eU (U6 nw f ng g a fl nu de top)=true):
  toQ [.az nw 3 f,.az ng 1 g,.int .i64 a,.int .i64 fl,.str nu,.str de,.int .i64 top]=some (U6 nw f ng g a fl nu de top)/\gn [.az nw 3 f,.az ng 1 g,.int .i64 a,.int .i64 fl,.str nu,.str de,.int .i64 top]=true/\ct (U6 nw f ng g a fl nu de top)=true:=by
 have b:toQ [.az nw 3 f,.az ng 1 g,.int .i64 a,.int .i64 fl,.str nu,.str de,.int .i64 top]=some (U6 nw f ng g a fl nu de top):=rfl
 have hi:gn [.az nw 3 f,.az ng 1 g,.int .i64 a,.int .i64 fl,.str nu,.str de,.int .i64 top]=true:=by
  show(aI 3 nw f&&aI 1 ng g)=true
  rw[a1,a2];rfl
 obtain⟨r1,d⟩:=rN b hi
 exact⟨b,hi,by unfold ct;rw[r1,d,c];rfl⟩
noncomputable def XX(b:Int->Nat)(c:Int->Nat->Nat->Int)(d:Int->Nat->Nat->List UInt8):aC PP II:=aC.s9 13
 (λX args e=>match args with
  |[.agg [.az nw 3 f,.az ng 1 g,.int .i64 a,.int .i64 fl,.str nu,.str de,.int .i64 top],.az k 10 h]=>X.ak (RC b c d nw f ng g a fl nu de top k h) (e (.bK [.az (b top) 9 (aX ng (c top) (d top)),.int .i64 0]))
  |_=>X.fail)
 λX sem hX args e h=>by
  split at h
  ·rename_i nw f ng g a fl nu de top k s
   obtain⟨l,i⟩:=hX.ak _ _ h
   obtain⟨⟨a1,a2,m,a4,n⟩,o,p,q⟩:=HA.1 l
   obtain⟨j,hi,r⟩:=U7 a1 a2 m
   rw[<-o,<-p,<-q]at i
   refine⟨_,i,λ_=>rfl,λσ=>?_,af.dA (A8 r n) (toQ_le j hi) (fq a4)⟩
   show [AV.bD σ (.agg _),_]=_
   rw[nU j];rfl
  ·exact zR
def Yc(b:(Nat->Int)->Nat)(c:(Nat->Int)->Nat->Nat->Int)(e:(Nat->Int)->Nat->Nat->List UInt8)(nw:Nat)(f:Nat->List AV)(ng:Nat)(g:Nat->List AV)(a fl:Int)(nu de:List UInt8)(top:Int)(k:Nat)(h:Nat->List AV)(m:Nat)(d:Nat->List AV):Prop :=
 (aI 3 nw f=true/\aI 1 ng g=true/\eU (U6 nw f ng g a fl nu de top)=true/\fh k h=true/\cX k (bP h)=true)/\(m=k/\bA m d=true/\tp k (bP h) (aM d)=true)/\sb (U6 nw f ng g a fl nu de top) k (bP h) (aM d)=b (aM d)/\FV (U6 nw f ng g a fl nu de top) k (bP h) (aM d)=c (aM d)/\xm (U6 nw f ng g a fl nu de top) k (bP h) (aM d)=e (aM d)
open Classical in
noncomputable def VK(b:(Nat->Int)->Nat)(c:(Nat->Int)->Nat->Nat->Int)(e:(Nat->Int)->Nat->Nat->List UInt8)(nw:Nat)(f:Nat->List AV)(ng:Nat)(g:Nat->List AV)(a fl:Int)(nu de:List UInt8)(top:Int)(k:Nat)(h:Nat->List AV)(m:Nat)(d:Nat->List AV):Bool:=decide (Yc b c e nw f ng g a fl nu de top k h m d)
open Classical in
theorem Sz{b:(Nat->Int)->Nat}{c:(Nat->Int)->Nat->Nat->Int}{e:(Nat->Int)->Nat->Nat->List UInt8}{nw:Nat}{f:Nat->List AV}{ng:Nat}{g:Nat->List AV}{a fl:Int}{nu de:List UInt8}{top:Int}{k:Nat}{h:Nat->List AV}{m:Nat}{d:Nat->List AV}:VK b c e nw f ng g a fl nu de top k h m d=true↔Yc b c e nw f ng g a fl nu de top k h m d:=by
 unfold VK
 exact decide_eq_true_iff
noncomputable def Zr(b:(Nat->Int)->Nat)(c:(Nat->Int)->Nat->Nat->Int)(e:(Nat->Int)->Nat->Nat->List UInt8):aC PP II:=aC.s9 14
 (λX args i=>match args with
  |[.agg [.az nw 3 f,.az ng 1 g,.int .i64 a,.int .i64 fl,.str nu,.str de,.int .i64 top],.az k 10 h,.az m 1 d]=>X.ak (VK b c e nw f ng g a fl nu de top k h m d) (i (.bK [.az (b (aM d)) 9 (aX ng (c (aM d)) (e (aM d))),.int .i64 0]))
  |_=>X.fail)
 λX sem hX args i h=>by
  split at h
  ·rename_i nw f ng g a fl nu de top k x m d
   obtain⟨n,j⟩:=hX.ak _ _ h
   obtain⟨⟨a1,a2,o,a4,p⟩,⟨q,r,s⟩,t,u,v⟩:=Sz.1 n
   subst q
   obtain⟨l,hi,w⟩:=U7 a1 a2 o
   rw[<-t,<-u,<-v]at j
   refine⟨_,j,λ_=>rfl,λσ=>?_,af.nT (xn w p (pM s)) (toQ_le l hi) (fq a4) (cy r)⟩
   show [AV.bD σ (.agg _),_,_]=_
   rw[nU l];rfl
  ·exact zR
end Go.Sx
end
section
set_option maxRecDepth 1000000
namespace Go.Sx
open Go
end Go.Sx
end
section
set_option maxRecDepth 1000000
namespace Go.Sx
open Go
end Go.Sx
end
section
set_option maxRecDepth 1000000
namespace Go.Sx
open Go
end Go.Sx
end
section
set_option maxRecDepth 1000000
namespace Go.Sx
open Go
end Go.Sx
end
section
set_option maxRecDepth 100000
namespace Go.Sx
open Go
def VU(q:Query):Query:=⟨q.nw,q.C,q.ng,q.G,q.a,q.fl,q.nu,q.de,0⟩
theorem VV{q:Query}(h:ct q=true):ct (VU q)=true:=by
 obtain⟨b,c,a⟩:=mY h
 unfold ct
 have d:eU (VU q)=true:=by
  unfold eU at a⊢
  simp only[bf]at a⊢
  exact⟨⟨a.1.1,rfl⟩,a.2⟩
 rw[show aI 3 (VU q).nw (au (VU q).C)=true from b,show aI 1 (VU q).ng (aR (VU q).G)=true from c,d];rfl
end Go.Sx
end
section
set_option maxRecDepth 1000000
namespace Go.Sx
open Go
def gW(q:Query)(t:Int):Query:=⟨q.nw,q.C,q.ng,q.G,q.a,q.fl,q.nu,q.de,t⟩
structure OQ (b:Query) (nw:Nat) (f:Nat->List AV):Prop where
 n:nw=b.nw
 fr:∀i,i<nw->∃a,a<b.nw/\f i=au b.C a
 bk:∀a,a<b.nw->∃i,i<nw/\f i=au b.C a
theorem OQ.self(q:Query):OQ q q.nw (au q.C):=⟨rfl,λi hi=>⟨i,hi,rfl⟩,λj a=>⟨j,a,rfl⟩⟩
theorem LJ{q:Query}{nw:Nat}{f:Nat->List AV}(h:OQ q nw f)(t:Int):Alike (gW q t) (U6 nw f q.ng (aR q.G) q.a q.fl q.nu q.de t) where
 ng:=rfl
 G:=rfl
 a:=rfl
 fl:=rfl
 nu:=rfl
 de:=rfl
 ok x d:=by
  have row:∀i j,f i=au q.C j->gG (U6 nw f q.ng (aR q.G) q.a q.fl q.nu q.de t) x d i=gG (gW q t) x d j:=λi j e=>by
   unfold gG
   show Nn (bV (f i) 1) (gJ x (bV (f i) 0) d) (bV (f i) 2)=_
   rw[e];rfl
  refine Bool.eq_iff_iff.2 ?_
  rw[Lu,Lu]
  refine and_congr_right λ_=>⟨λk i hi=>?_,λk j b=>?_⟩
  ·obtain⟨j,b,e⟩:=h.fr i hi
   rw[row i j e];exact k j b
  ·obtain⟨i,hi,e⟩:=h.bk j b
   rw[<-row i j e];exact k i hi
theorem VW{q:Query}{nw:Nat}{f:Nat->List AV}(h:OQ q nw f){t:Int}(u:ct (gW q t)=true){k:Nat}{F:Nat->ay}(g:cX k F=true){l:Int->Nat}{m:Int->Nat->Nat->Int}{o:Int->Nat->Nat->List UInt8}
  (v:r8 (gW q t) k F=l t) (w:FM (gW q t) k F=m t) (x:oU (gW q t) k F=o t):
  RC l m o nw f q.ng (aR q.G) q.a q.fl q.nu q.de t k (λi=>aF (F i))=true:=by
 obtain⟨y,D,b⟩:=mY u
 have E:aI 3 nw f=true:=List.all_eq_true.2 λi hi=>by
  obtain⟨j,d,e⟩:=h.fr i (List.mem_range.1 hi)
  rw[e];exact c7 y d
 have p:eU (U6 nw f q.ng (aR q.G) q.a q.fl q.nu q.de t)=true:=by
  obtain⟨_,c⟩:=fQ b
  unfold eU at b⊢
  simp only[bf]at b⊢
  refine⟨⟨⟨⟨⟨?_,b.1.1.1.1.2⟩,?_⟩,b.1.1.2⟩,b.1.2⟩,b.2⟩
  ·have:=b.1.1.1.1.1
   show decide (nw<=6)=true
   rw[h.n];exact this
  ·refine List.all_eq_true.2 λi hi=>?_
   obtain⟨j,d,e⟩:=h.fr i (List.mem_range.1 hi)
   have:=c j d
   show(decide (1<=bV (f i) 0)&&decide (bV (f i) 0<=8)&&decide (1<=bV (f i) 1)&&decide (bV (f i) 1<=4)&&decide (-1<=bV (f i) 2)&&decide (bV (f i) 2<=4398046511104))=true
   rw[e]
   show(decide (1<=q.C j 0)&&decide (q.C j 0<=8)&&decide (1<=q.C j 1)&&decide (q.C j 1<=4)&&decide (-1<=q.C j 2)&&decide (q.C j 2<=4398046511104))=true
   simp only[bf,bn]
   obtain⟨⟨a1,a2⟩,⟨H,a4⟩,I,J⟩:=this
   exact⟨⟨⟨⟨⟨a1,a2⟩,H⟩,a4⟩,I⟩,J⟩
 obtain⟨r1,r,s⟩:=VN (LJ h t) rfl b p (k:=k) (F:=F) (jR g)
 rw[v]at r1
 rw[w]at r
 rw[x]at s
 exact HA.2 ⟨⟨E,D,p,gr k F,g⟩,r1.symm,r.symm,s.symm⟩
theorem VX{q p:Query}(h:Alike q p)(ht:q.top=p.top)(e:eU q=true)(f:eU p=true){k:Nat}{F:Nat->ay}(g:∀j,j<k->bB (F j)=true)(D:Nat->Int):sb q k F D=sb p k F D/\FV q k F D=FV p k F D/\xm q k F D=xm p k F D:=by
 have t:=Dl h e f F k g
 obtain⟨_,_,a1,a2⟩:=Sq h
 obtain⟨a,_,_⟩:=QL h
 obtain⟨l,c⟩:=Vo ht
 have m:uG q F D=uG p F D:=by funext T j;exact h.ok _ _
 have n:Rb q D=Rb p D:=by funext L T j;unfold Rb;rw[h.fl]
 have d:jy q F D=jy p F D:=by
  funext X i k
  unfold jy yd uq
  rw[a1,a2,m,n]
 have b:Bf q F D=Bf p F D:=by funext X;unfold Bf;rw[h.ng,d]
 refine⟨?_,?_,?_⟩
 ·unfold sb;rw[t,a,b,l]
 ·funext j;unfold FV;rw[t,a,b,c]
 ·funext j;unfold xm;rw[t,a,b,c,d]
theorem Y5{q:Query}{nw:Nat}{f:Nat->List AV}(h:OQ q nw f){t:Int}(l:ct (gW q t)=true){k:Nat}{F:Nat->ay}(m:cX k F=true){D:Nat->Int}(n:tp k F D=true){o:Int->Nat}{p:Int->Nat->Nat->Int}{r:Int->Nat->Nat->List UInt8}{c:(Nat->Int)->Nat}{d:(Nat->Int)->Nat->Nat->Int}{e:(Nat->Int)->Nat->Nat->List UInt8}
  (b:RC o p r nw f q.ng (aR q.G) q.a q.fl q.nu q.de t k (λi=>aF (F i))=true) (s:sb (gW q t) k F D=c D) (u:FV (gW q t) k F D=d D) (v:xm (gW q t) k F D=e D):
  VK c d e nw f q.ng (aR q.G) q.a q.fl q.nu q.de t k (λi=>aF (F i)) k (ae D)=true:=by
 have b:=(HA.1 b).1
 obtain⟨r1,g,j⟩:=VX (LJ h t) rfl (mY l).2.2 b.2.2.1 (jR m) D
 rw[s]at r1
 rw[u]at g
 rw[v]at j
 exact Sz.2 ⟨b,⟨rfl,kc _ _,n⟩,r1.symm,g.symm,j.symm⟩
end Go.Sx
end
