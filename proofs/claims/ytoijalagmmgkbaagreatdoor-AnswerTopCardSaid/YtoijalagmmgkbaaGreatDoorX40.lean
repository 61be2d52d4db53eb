/- The proof of a statement of the seat, part 40. -/
import Derived.Test.YtoijalagmmgkbaaGreatDoorX38
import Derived.Test.YtoijalagmmgkbaaGreatDoorX39
set_option linter.all false
set_option linter.defProp false
section
set_option maxRecDepth 100000
namespace Go.Sx
open Go
structure Alike (c p:Query):Prop where
 ng:c.ng=p.ng
 G:c.G=p.G
 a:c.a=p.a
 fl:c.fl=p.fl
 nu:c.nu=p.nu
 de:c.de=p.de
 ok:∀x b,qS c x b=qS p x b
theorem Alike.symm{q p:Query}(h:Alike q p):Alike p q:=⟨h.ng.symm,h.G.symm,h.a.symm,h.fl.symm,h.nu.symm,h.de.symm,λx d=>(h.ok x d).symm⟩
theorem OR(W:Nat->Int):∀k,0<k->∃j,j<k/\jc W k=W j
 |1,_=>⟨0,O,by show(if W 0<W 0 then W 0 else W 0)=_;split<;>rfl⟩
 |k+2,_=>by
  obtain⟨j,a,e⟩:=OR W (k+1) O
  show ∃j,j<k+2/\(if W (k+1)<jc W (k+1)then W (k+1)else jc W (k+1))=W j
  split
  ·exact⟨k+1,O,rfl⟩
  ·exact⟨j,O,e⟩
theorem Su{q:Query}{x:ay}{j:Nat}(a:j<jQ q x):qS q x (fT q x j)=true:=by
 refine QP (k:=3*(q.nw+2)) ?_
 unfold fT
 rw[List.getD_eq_getElem?_getD,mo a]
 exact List.getElem_mem _
theorem VH{q:Query}{x:ay}{d:Int}(h:qS q x d=true):x.l<=d/\d<=x.h:=(K4.1 h).1
theorem least_le{q:Query}{x:ay}{d:Int}(a:eU q=true)(h:qS q x d=true):jc (fT q x) (jQ q x)<=d:=by
 have:=VH h
 obtain⟨m,b,c⟩:=Ov a (d-x.l).toNat d O h
 exact Int.le_trans (Du _ _ _ b) c
theorem Sv{q:Query}{x:ay}{d:Int}(a:eU q=true)(h:qS q x d=true):d<=cG (fT q x) (jQ q x):=by
 have:=VH h
 obtain⟨m,b,c⟩:=Hs a (x.h-d).toNat d O h
 exact Int.le_trans c (xu _ _ _ b)
theorem RE{q:Query}{x:ay}(a:eU q=true)(b:gk q x=true):qS q x (jc (fT q x) (jQ q x))=true:=by
 obtain⟨j,c,e⟩:=OR (fT q x) _ (wX a b)
 rw[e];exact Su c
theorem Sw{q:Query}{x:ay}(a:eU q=true)(b:gk q x=true):qS q x (cG (fT q x) (jQ q x))=true:=by
 obtain⟨j,c,e⟩:=pH (fT q x) _ (wX a b)
 rw[e];exact Su c
theorem RF{q p:Query}{x:ay}(h:Alike q p)(c:eU q=true)(d:eU p=true)(hx:bB x=true):gk q x=gk p x/\kR q x=kR p x/\lJ q x=lJ p x/\Br q x=Br p x:=by
 have b:gk q x=gk p x:=Bool.eq_iff_iff.2 ((RC c).trans (Iff.trans (by simp only[h.ok]) (RC d).symm))
 have e:jA q x=jA p x:=Bool.eq_iff_iff.2 ((RD c hx).trans (Iff.trans (by simp only[h.ok]) (RD d hx).symm))
 refine⟨b,?_,?_,by unfold Br;rw[b,e]⟩
 ·unfold kR
  rw[b,e,h.a,h.fl]
  cases hm:gk p x with
  |false=>rfl
  |true=>
   rw[hm]at b
   have:jc (fT q x) (jQ q x)=jc (fT p x) (jQ p x):=Int.le_antisymm (least_le c ((h.ok _ _).trans (RE d hm))) (least_le d ((h.ok _ _).symm.trans (RE c b)))
   rw[this]
 ·unfold lJ
  rw[b,e,h.a,h.fl]
  cases hm:gk p x with
  |false=>rfl
  |true=>
   rw[hm]at b
   have:cG (fT q x) (jQ q x)=cG (fT p x) (jQ p x):=Int.le_antisymm (Sv d ((h.ok _ _).symm.trans (Sw c b))) (Sv c ((h.ok _ _).trans (Sw d hm)))
   rw[this]
theorem zO{q p:Query}(h:Alike q p)(a:eU q=true)(b:eU p=true)(F:Nat->ay):∀i,(∀j,j<i->bB (F j)=true)->aV q F i=aV p F i
 |0,_=>rfl
 |i+1,c=>by
  obtain⟨d,e,f,g⟩:=RF h a b (c i (Nat.lt_succ_self i))
  show km q (aV q F i) i (F i)=km p (aV p F i) i (F i)
  rw[zO h a b F i λj l=>c j O]
  have k1:bc q (F i)=bc p (F i):=by unfold bc;rw[h.G]
  have k:FA q (F i)=FA p (F i):=by unfold FA;rw[h.ng,k1]
  unfold km
  rw[d,e,f,g,k1,k]
theorem Pb{q p:Query}(h:Alike q p):eO q=eO p/\dQ q=dQ p/\c8 q=c8 p/\da q=da p:=by
 obtain⟨nw,C,ng,G,a,fl,nu,de,top⟩:=q
 obtain⟨c,o,d,r,a',e,f,g,b⟩:=p
 obtain⟨i,j,k,l,m,n,_⟩:=h
 cases i;cases j;cases k;cases l;cases m;cases n
 exact⟨rfl,rfl,rfl,rfl⟩
theorem Hp{q p:Query}(h:Alike q p):og q=og p/\jC q=jC p/\yc q=yc p:=by
 obtain⟨b,c,_,_⟩:=Pb h
 have a:jC q=jC p:=by
  funext X i k
  unfold jC
  rw[b,c]
 refine⟨by funext gs i;unfold og;rw[h.ng],a,by funext X;unfold yc;rw[h.ng,a]⟩
theorem Sy{q p:Query}(h:q.top=p.top):ju q=ju p/\cS q=cS p:=by
 have e:cQ q=cQ p:=by funext m S i;unfold cQ;rw[h]
 constructor
 ·funext m S;unfold ju;rw[h,e]
 ·funext m S j;unfold cS;rw[h,e]
theorem S1{q p:Query}(h:Alike q p)(ht:q.top=p.top)(d:eU q=true)(e:eU p=true){k:Nat}{F:Nat->ay}(f:∀j,j<k->bB (F j)=true):r8 q k F=r8 p k F/\FM q k F=FM p k F/\oU q k F=oU p k F:=by
 have t:=zO h d e F k f
 obtain⟨a,g,b⟩:=Hp h
 obtain⟨i,c⟩:=Sy ht
 refine⟨?_,?_,?_⟩
 ·unfold r8;rw[t,a,b,i]
 ·funext j;unfold FM;rw[t,a,b,c]
 ·funext j;unfold oU;rw[t,a,g,b,c]
end Go.Sx
end
section
set_option maxRecDepth 1000000
namespace Go.Sx
open Go
def Sr(nw:Nat)(f:Nat->List AV)(ng:Nat)(g:Nat->List AV)(a fl:Int)(nu de:List UInt8)(top:Int):Query:=⟨nw,bG f,ng,λj=>bV (g j) 0,a,fl,nu,de,top⟩
def VI(b:Int->Nat)(c:Int->Nat->Nat->Int)(d:Int->Nat->Nat->List UInt8)(nw:Nat)(f:Nat->List AV)(ng:Nat)(g:Nat->List AV)(a fl:Int)(nu de:List UInt8)(top:Int)(k:Nat)(h:Nat->List AV):Prop :=
 (aI 3 nw f=true/\aI 1 ng g=true/\eU (Sr nw f ng g a fl nu de top)=true/\fh k h=true/\cX k (bP h)=true)/\r8 (Sr nw f ng g a fl nu de top) k (bP h)=b top/\FM (Sr nw f ng g a fl nu de top) k (bP h)=c top/\oU (Sr nw f ng g a fl nu de top) k (bP h)=d top
open Classical in
noncomputable def Ik(b:Int->Nat)(c:Int->Nat->Nat->Int)(d:Int->Nat->Nat->List UInt8)(nw:Nat)(f:Nat->List AV)(ng:Nat)(g:Nat->List AV)(a fl:Int)(nu de:List UInt8)(top:Int)(k:Nat)(h:Nat->List AV):Bool:=decide (VI b c d nw f ng g a fl nu de top k h)
open Classical in
theorem Lu{b:Int->Nat}{c:Int->Nat->Nat->Int}{d:Int->Nat->Nat->List UInt8}{nw:Nat}{f:Nat->List AV}{ng:Nat}{g:Nat->List AV}{a fl:Int}{nu de:List UInt8}{top:Int}{k:Nat}{h:Nat->List AV}:Ik b c d nw f ng g a fl nu de top k h=true↔VI b c d nw f ng g a fl nu de top k h:=by
 unfold Ik
 exact decide_eq_true_iff
theorem T9{nw:Nat}{f:Nat->List AV}{ng:Nat}{g:Nat->List AV}{a fl:Int}{nu de:List UInt8}{top:Int}(a1:aI 3 nw f=true)(a2:aI 1 ng g=true)(c:eU (Sr nw f ng g a fl nu de top)=true):
  toQ [.az nw 3 f,.az ng 1 g,.int .i64 a,.int .i64 fl,.str nu,.str de,.int .i64 top]=some (Sr nw f ng g a fl nu de top)/\gn [.az nw 3 f,.az ng 1 g,.int .i64 a,.int .i64 fl,.str nu,.str de,.int .i64 top]=true/\ct (Sr nw f ng g a fl nu de top)=true:=by
 have b:toQ [.az nw 3 f,.az ng 1 g,.int .i64 a,.int .i64 fl,.str nu,.str de,.int .i64 top]=some (Sr nw f ng g a fl nu de top):=rfl
 have hi:gn [.az nw 3 f,.az ng 1 g,.int .i64 a,.int .i64 fl,.str nu,.str de,.int .i64 top]=true:=by
  show(aI 3 nw f&&aI 1 ng g)=true
  rw[a1,a2];rfl
 obtain⟨r1,d⟩:=rN b hi
 exact⟨b,hi,by unfold ct;rw[r1,d,c];rfl⟩
noncomputable def VJ(b:Int->Nat)(c:Int->Nat->Nat->Int)(d:Int->Nat->Nat->List UInt8):aC PP II:=aC.s9 13
 (λX args e=>match args with
  |[.agg [.az nw 3 f,.az ng 1 g,.int .i64 a,.int .i64 fl,.str nu,.str de,.int .i64 top],.az k 10 h]=>X.ak (Ik b c d nw f ng g a fl nu de top k h) (e (.bK [.az (b top) 9 (aX ng (c top) (d top)),.int .i64 0]))
  |_=>X.fail)
 λX sem hX args e h=>by
  split at h
  ·rename_i nw f ng g a fl nu de top k s
   obtain⟨l,i⟩:=hX.ak _ _ h
   obtain⟨⟨a1,a2,m,a4,n⟩,o,p,q⟩:=Lu.1 l
   obtain⟨j,hi,r⟩:=T9 a1 a2 m
   rw[<-o,<-p,<-q]at i
   refine⟨_,i,λ_=>rfl,λσ=>?_,af.dA (A8 r n) (toQ_le j hi) (fq a4)⟩
   show [AV.bD σ (.agg _),_]=_
   rw[nU j];rfl
  ·exact zR
def VK(b:(Nat->Int)->Nat)(c:(Nat->Int)->Nat->Nat->Int)(e:(Nat->Int)->Nat->Nat->List UInt8)(nw:Nat)(f:Nat->List AV)(ng:Nat)(g:Nat->List AV)(a fl:Int)(nu de:List UInt8)(top:Int)(k:Nat)(h:Nat->List AV)(m:Nat)(d:Nat->List AV):Prop :=
 (aI 3 nw f=true/\aI 1 ng g=true/\eU (Sr nw f ng g a fl nu de top)=true/\fh k h=true/\cX k (bP h)=true)/\(m=k/\bA m d=true/\tp k (bP h) (aM d)=true)/\sb (Sr nw f ng g a fl nu de top) k (bP h) (aM d)=b (aM d)/\FV (Sr nw f ng g a fl nu de top) k (bP h) (aM d)=c (aM d)/\xm (Sr nw f ng g a fl nu de top) k (bP h) (aM d)=e (aM d)
open Classical in
noncomputable def Ps(b:(Nat->Int)->Nat)(c:(Nat->Int)->Nat->Nat->Int)(e:(Nat->Int)->Nat->Nat->List UInt8)(nw:Nat)(f:Nat->List AV)(ng:Nat)(g:Nat->List AV)(a fl:Int)(nu de:List UInt8)(top:Int)(k:Nat)(h:Nat->List AV)(m:Nat)(d:Nat->List AV):Bool:=decide (VK b c e nw f ng g a fl nu de top k h m d)
open Classical in
theorem P3{b:(Nat->Int)->Nat}{c:(Nat->Int)->Nat->Nat->Int}{e:(Nat->Int)->Nat->Nat->List UInt8}{nw:Nat}{f:Nat->List AV}{ng:Nat}{g:Nat->List AV}{a fl:Int}{nu de:List UInt8}{top:Int}{k:Nat}{h:Nat->List AV}{m:Nat}{d:Nat->List AV}:Ps b c e nw f ng g a fl nu de top k h m d=true↔VK b c e nw f ng g a fl nu de top k h m d:=by
 unfold Ps
 exact decide_eq_true_iff
noncomputable def Sz(b:(Nat->Int)->Nat)(c:(Nat->Int)->Nat->Nat->Int)(e:(Nat->Int)->Nat->Nat->List UInt8):aC PP II:=aC.s9 14
 (λX args i=>match args with
  |[.agg [.az nw 3 f,.az ng 1 g,.int .i64 a,.int .i64 fl,.str nu,.str de,.int .i64 top],.az k 10 h,.az m 1 d]=>X.ak (Ps b c e nw f ng g a fl nu de top k h m d) (i (.bK [.az (b (aM d)) 9 (aX ng (c (aM d)) (e (aM d))),.int .i64 0]))
  |_=>X.fail)
 λX sem hX args i h=>by
  split at h
  ·rename_i nw f ng g a fl nu de top k x m d
   obtain⟨n,j⟩:=hX.ak _ _ h
   obtain⟨⟨a1,a2,o,a4,p⟩,⟨q,r,s⟩,t,u,v⟩:=P3.1 n
   subst q
   obtain⟨l,hi,w⟩:=T9 a1 a2 o
   rw[<-t,<-u,<-v]at j
   refine⟨_,j,λ_=>rfl,λσ=>?_,af.nT (xn w p (pM s)) (toQ_le l hi) (fq a4) (cy r)⟩
   show [AV.bD σ (.agg _),_,_]=_
   rw[nU l];rfl
  ·exact zR
def VV(g pn b c:Nat)(KP KS KT:Nat->Nat->Int)(SP SS ST:Nat->Nat->List UInt8)(a i:Int)(d:List (Nat×AV)):Tr AV:=Tr.ofList ([(9,.bool true),(10,.ptr 15 0 0 0),(12,.az pn 9 (aX g KP SP)),(19,.az b 9 (aX g KS SS)),(21,.az c 9 (aX g KT ST)),(23,.int .i64 a),(24,.int .i64 i)]++d)
noncomputable def VW(q:Query)(n:Nat):AH:={n:=n,t:=Tr.ofList [(6,.cells dz (.ex 20)),(15,.cells (aY q) (.ty 32))]}
noncomputable def Vf(q:Query)(g pn b c:Nat)(KP KS KT:Nat->Nat->Int)(SP SS ST:Nat->Nat->List UInt8)(a:Int->Int)(i:Int):St:={t:=VV g pn b c KP KS KT SP SS ST (a i) i [],nt:=192,H:=VW q 44,df:=[]}
noncomputable def Vg(g pn:Nat)(KP:Nat->Nat->Int)(SP:Nat->Nat->List UInt8)(a:Int):GE:=.one (.x 0 {t:=Tr.ofList [(9,.bool true),(12,.az pn 9 (aX g KP SP)),(23,.int .i64 a)],nt:=192,H:={n:=44,t:=Tr.ofList [(6,.cells dz (.ex 20))]},df:=[]})
end Go.Sx
end
section
set_option maxRecDepth 1000000
namespace Go.Sx
open Go
noncomputable def LJ(q:Query)(g pn b d:Nat)(KP KS KT:Nat->Nat->Int)(SP SS ST:Nat->Nat->List UInt8)(a i:Int)(c:Int->Int)(j:Int):St:={t:=VV g pn b d KP KS KT SP SS ST a i [(25,.int .i64 (c j)),(26,.int .i64 j)],nt:=192,H:=VW q 61,df:=[]}
noncomputable def NB(q:Query)(g pn b c:Nat)(KP KS KT:Nat->Nat->Int)(SP SS ST:Nat->Nat->List UInt8)(a i cE:Int):GE:=.one (.x 2 {t:=VV g pn b c KP KS KT SP SS ST a i [(25,.int .i64 cE)],nt:=192,H:=VW q 61,df:=[]})
theorem Ur(q:Query)(g pn d b:Nat)(KP KS KT:Nat->Nat->Int)(SP SS ST:Nat->Nat->List UInt8)(a i:Int)(c:Int->Int)(cE:Int)(j:Int)(Q:Prop):(kr [j8] [] 8 25004 61 (LJ q g pn d b KP KS KT SP SS ST a i c) (λ_=>NB q g pn d b KP KS KT SP SS ST a i cE) (λj=>j+1) Q j)=(let e:=(zyN b (zyR b (aX g KT ST) (zyI i (zyN pn (zyR pn (aX g KP SP) (zyI (j+1) Q))))));(ah (decide (j<Int.ofNat b)) (aa (decide (0<=j)&&decide (j<Int.ofNat b)) (aa (decide (0<=i)&&decide (i<Int.ofNat b)) (aa (bJ (ST j.toNat 0) (ST j.toNat 1)&&bJ (ST i.toNat 0) (ST i.toNat 1)) (ah (decide (bw (eu (ST j.toNat 0)) (eu (ST j.toNat 1)) (eu (ST i.toNat 0)) (eu (ST i.toNat 1))>0)) (aa (aN .i64 (c j+1)) (aa (aN .i64 (j+1)) (zyN q.nw (zyR q.nw (au q.C) (zyN q.ng (zyR q.ng (aR q.G) (zyI q.a (zyI q.fl (zyB q.nu (zyB q.de (zyI q.top (zyI a (zyN d (zyR d (aX g KS SS) (true=true/\aH (c j+1) (c (j+1)) e))))))))))))))) (aa (aN .i64 (j+1)) (zyN q.nw (zyR q.nw (au q.C) (zyN q.ng (zyR q.ng (aR q.G) (zyI q.a (zyI q.fl (zyB q.nu (zyB q.de (zyI q.top (zyI a (zyN d (zyR d (aX g KS SS) (true=true/\aH (c j) (c (j+1)) e)))))))))))))))))) (zyN q.nw (zyR q.nw (au q.C) (zyN q.ng (zyR q.ng (aR q.G) (zyI q.a (zyI q.fl (zyB q.nu (zyB q.de (zyI q.top (zyI a (zyN d (zyR d (aX g KS SS) (true=true/\aH (c j) cE (zyN b (zyR b (aX g KT ST) (zyI i (zyN pn (zyR pn (aX g KP SP) True)))))))))))))))))))):=U
theorem RG(q:Query)(g pn d e:Nat)(KP KS KT:Nat->Nat->Int)(SP SS ST:Nat->Nat->List UInt8)(b:Int->Int)(c:Int->Int)(cE k:Int)(i:Int)(Q:Prop):(kr [FR] [(25004,61,LJ q g pn d e KP KS KT SP SS ST (b i) i c 0,NB q g pn d e KP KS KT SP SS ST (b i) i cE)] 8 17004 44 (Vf q g pn d e KP KS KT SP SS ST b) (λ_=>Vg g pn KP SP k) (λi=>i+1) Q i)=(let j:=(gW PP II false (aD II 8 25004) 61 (LJ q g pn d e KP KS KT SP SS ST (b i) i c 0) (NB q g pn d e KP KS KT SP SS ST (b i) i cE)/\zyN q.nw (zyR q.nw (au q.C) (zyN q.ng (zyR q.ng (aR q.G) (zyI q.a (zyI q.fl (zyB q.nu (zyB q.de (zyI q.top (zyI (b i) (zyN d (zyR d (aX g KS SS) (true=true/\aH 0 (c 0) (zyN e (zyR e (aX g KT ST) (zyI i (zyN pn (zyR pn (aX g KP SP) (ah (decide (q.top=0)) False (ah (decide (cE<q.top)) False (aa (aN .i64 (i+1)) (zyN q.nw (zyR q.nw (au q.C) (zyN q.ng (zyR q.ng (aR q.G) (zyI q.a (zyI q.fl (zyB q.nu (zyB q.de (zyI q.top (aH (b i) (b (i+1)) (zyN d (zyR d (aX g KS SS) (true=true/\zyN e (zyR e (aX g KT ST) (zyI (i+1) (zyN pn (zyR pn (aX g KP SP) Q))))))))))))))))))))))))))))))))))))));let f:=(decide (0<=b i)&&decide (b i<Int.ofNat pn));let h:=(decide (0<=i)&&decide (i<Int.ofNat d));(ah (decide (i<Int.ofNat d)) (ah (decide (b i<Int.ofNat pn)) (aa f (aa h (aa (bA g (ae (KP (Int.toNat (b i))))&&bA g (ae (KS i.toNat))&&Nat.ble g 1000000&&Nat.beq g g) (ah (A9 g (aM (ae (KP (Int.toNat (b i))))) (aM (ae (KS i.toNat)))) (aa f (aa h (ah (!(List.beq (SP (Int.toNat (b i)) 0) (SS i.toNat 0)&&(List.beq (SP (Int.toNat (b i)) 1) (SS i.toNat 1)&&true))) False (aa f (aa h (ah (!(List.beq (SP (Int.toNat (b i)) 2) (SS i.toNat 2)&&(List.beq (SP (Int.toNat (b i)) 3) (SS i.toNat 3)&&true))) False (aa (aN .i64 (b i+1)) (aa (aN .i64 (i+1)) (zyN q.nw (zyR q.nw (au q.C) (zyN q.ng (zyR q.ng (aR q.G) (zyI q.a (zyI q.fl (zyB q.nu (zyB q.de (zyI q.top (aH (b i+1) (b (i+1)) (zyN d (zyR d (aX g KS SS) (true=true/\zyN e (zyR e (aX g KT ST) (zyI (i+1) (zyN pn (zyR pn (aX g KP SP) Q))))))))))))))))))))))))) j)))) j) (aH (b i) k (true=true/\zyN pn (zyR pn (aX g KP SP) True))))):=U
end Go.Sx
end
section
set_option maxRecDepth 1000000
namespace Go.Sx
open Go
theorem Vh(n:Nat)(X:Nat->Nat->Int)(m:Nat)(C:Nat->Nat->Int)(agg g top fC:Int)(w:Nat)(W:Nat->Int)(q:Query)(k:Nat)(F:Nat->ay)(D:Nat->Int)(f:Int->Nat)(c:Int->Nat->Nat->Int)(d:Int->Nat->Nat->List UInt8)(l:(Nat->Int)->Nat)(s:(Nat->Int)->Nat->Nat->Int)(t:(Nat->Int)->Nat->Nat->List UInt8)(b:Int->Int)(x:Int)(Q:AV->Prop):(jE [S7,OE q,Hz k F,VJ f c d,v8 18 (.inl A),S8 D,Sz l s t,Vq q.ng] (mG PP II [(17004,44,Vf q q.ng (f q.top) (f 0) (l D) (c q.top) (c 0) (s D) (d q.top) (d 0) (t D) b 0,Vg q.ng (f q.top) (c q.top) (d q.top) x)]) 1000 8 [.agg [.int .i64 agg,.az m 3 (au C),.int .i64 g,.int .i64 top],.az n 6 (fm X),.az w 1 (ae W),.int .i64 fC] Hm (λa H=>aa (Nat.ble 14 H.n) (Q a)) (λ_ _=>False))=(let o:=(decide (q.nw=q.nw)&&true&&List.all (List.range q.nw) λi=>decide (q.C i 0=q.C i 0)&&(decide (q.C i 1=q.C i 1)&&(decide (q.C i 2=q.C i 2)&&true)));let p:=(aa (Ik f c d q.nw (au q.C) q.ng (aR q.G) q.a q.fl q.nu q.de 0 k λi=>aF (F i)) (aa (((fh k λi=>aF (F i))&&Dl k λi=>aF (F i))&&intsIn w (ae W)&&Nat.ble k 1000000&&zr D (bP λi=>aF (F i)) w (ae W)) (aa (o&&((decide (q.ng=q.ng)&&true&&List.all (List.range q.ng) λi=>decide (q.G i=q.G i)&&true)&&(decide (q.a=q.a)&&(decide (q.fl=q.fl)&&(decide (q.nu=q.nu)&&(decide (q.de=q.de)&&true)))))) (aa (Ps l s t q.nw (au q.C) q.ng (aR q.G) q.a q.fl q.nu q.de 0 k (λi=>aF (F i)) k (ae D)) (aa (wT q.ng (f q.top) (aX q.ng (c q.top) (d q.top))&&wT q.ng (f q.top) (aX q.ng (c q.top) (d q.top))&&Nat.beq (f q.top) (f q.top)&&Nat.ble (f q.top) 1000000&&Nat.ble q.ng 1000000&&List.all (List.range (f q.top)) λi=>(List.all (List.range q.ng) λk=>decide (CZ (aX q.ng (c q.top) (d q.top)) i k=CZ (aX q.ng (c q.top) (d q.top)) i k))&&decide (nV (aX q.ng (c q.top) (d q.top)) i 0=nV (aX q.ng (c q.top) (d q.top)) i 0)&&decide (nV (aX q.ng (c q.top) (d q.top)) i 1=nV (aX q.ng (c q.top) (d q.top)) i 1)&&decide (nV (aX q.ng (c q.top) (d q.top)) i 2=nV (aX q.ng (c q.top) (d q.top)) i 2)&&decide (nV (aX q.ng (c q.top) (d q.top)) i 3=nV (aX q.ng (c q.top) (d q.top)) i 3)) (ah (!decide (Int.ofNat (f 0)=Int.ofNat (l (aM (ae D))))) (Q (AV.bool false)) (gW PP II false (aD II 8 17004) 44 (Vf q q.ng (f q.top) (f 0) (l D) (c q.top) (c 0) (s D) (d q.top) (d 0) (t D) b 0) (Vg q.ng (f q.top) (c q.top) (d q.top) x)/\zyN q.nw (zyR q.nw (au q.C) (zyN q.ng (zyR q.ng (aR q.G) (zyI q.a (zyI q.fl (zyB q.nu (zyB q.de (zyI q.top (aH 0 (b 0) (zyN (f 0) (zyR (f 0) (aX q.ng (c 0) (d 0)) (true=true/\ax (l (aM (ae D))) (l D) (an (l (aM (ae D))) (aX q.ng (s (aM (ae D))) (t (aM (ae D)))) (aX q.ng (s D) (t D))/\zyN (f q.top) (zyR (f q.top) (aX q.ng (c q.top) (d q.top)) (Q (AV.bool (decide (x=Int.ofNat (f q.top))))))))))))))))))))))))));let h:=(Int.ofNat q.nw-av fC (Int.ofNat q.nw+1));let e:=(av fC (Int.ofNat q.nw+1)-0);let j:=(decide (0<=av fC (Int.ofNat q.nw+1))&&decide (av fC (Int.ofNat q.nw+1)<=Int.ofNat q.nw));let u:=(decide (e.toNat=e.toNat)&&true&&List.all (List.range e.toNat) λi=>decide (q.C (0+i) 0=q.C (0+i) 0)&&(decide (q.C (0+i) 1=q.C (0+i) 1)&&(decide (q.C (0+i) 2=q.C (0+i) 2)&&true)));let v:=(jz.cells [AV.str [48],AV.str [49]] Access.ro);let r:=(0+h.toNat+e.toNat);(aa (FY (jz.cells [AV.az 5 2 aA] Access.ro) v (jz.cells [AV.int .i64 7,AV.int .i64 9,AV.int .i64 11,AV.int .i64 99] Access.ro) (jz.cells [AV.map (some 13)] Access.ro) (jz.cells [AV.int .u64 1,AV.int .u64 10,AV.int .u64 100,AV.int .u64 1000,AV.int .u64 10000,AV.int .u64 100000,AV.int .u64 1000000,AV.int .u64 10000000,AV.int .u64 100000000,AV.int .u64 1000000000,AV.int .u64 10000000000,AV.int .u64 100000000000,AV.int .u64 1000000000000,AV.int .u64 10000000000000,AV.int .u64 100000000000000,AV.int .u64 1000000000000000,AV.int .u64 10000000000000000,AV.int .u64 100000000000000000,AV.int .u64 1000000000000000000,AV.int .u64 10000000000000000000] (Access.ex 20)) v (jz.cells [AV.str [49],AV.str [49]] Access.ro) (jz.map lS)) (aa (aI 3 m (au C)&&aN .i64 agg&&aN .i64 g&&aN .i64 top&&tC q agg m (au C) g top) (aa (aI 6 n (fm X)&&zp k F n (fm X)) (aa (Ik f c d q.nw (au q.C) q.ng (aR q.G) q.a q.fl q.nu q.de q.top k λi=>aF (F i)) (aa (aN .i64 (Int.ofNat q.nw+1)) (aa (aN .i64 fC&&decide (0<Int.ofNat q.nw+1)) (aa (decide (0<=av fC (Int.ofNat q.nw+1))&&decide (av fC (Int.ofNat q.nw+1)<=Int.ofNat q.nw)&&decide (Int.ofNat q.nw<=Int.ofNat q.nw)) (aa (decide ((0+h.toNat)*24<=140737488355328)&&true) (ah (decide (h.toNat=0)) (aa o (aa j (aa j (aa u (aa (decide ((0+e.toNat)*24<=140737488355328)&&true) (ah (decide (e.toNat=0)) (aa (Ik f c d 0 (λi=>List.take 3 (List.drop (0+i*3) [])) q.ng (aR q.G) q.a q.fl q.nu q.de q.top k λi=>aF (F i)) p) (aa ((List.all (List.range (0+e.toNat)) λi=>bt.free (bif Nat.blt i 0 then List.take 3 (List.drop (0+i*3) [])else au q.C (0+(i-0))))&&decide (0+e.toNat<=0+e.toNat)) (aa (Ik f c d (0+e.toNat) (λi=>bif Nat.blt i 0 then List.take 3 (List.drop (0+i*3) [])else au q.C (0+(i-0))) q.ng (aR q.G) q.a q.fl q.nu q.de q.top k λi=>aF (F i)) p)))))))) (aa o (aa j (aa j (aa u (aa (decide (0+h.toNat<=0+h.toNat)&&true&&true&&decide (r*24<=140737488355328)&&true) (aa ((List.all (List.range r) λi=>bt.free (bif Nat.blt i (0+h.toNat)then bif Nat.blt i 0 then List.take 3 (List.drop (0+i*3) [])else au q.C (Int.toNat (av fC (Int.ofNat q.nw+1))+(i-0))else au q.C (0+(i-(0+h.toNat)))))&&decide (0+h.toNat+e.toNat<=0+h.toNat+e.toNat)) (aa (Ik f c d r (λi=>bif Nat.blt i (0+h.toNat)then bif Nat.blt i 0 then List.take 3 (List.drop (0+i*3) [])else au q.C (Int.toNat (av fC (Int.ofNat q.nw+1))+(i-0))else au q.C (0+(i-(0+h.toNat)))) q.ng (aR q.G) q.a q.fl q.nu q.de q.top k λi=>aF (F i)) p))))))))))))))))):=U
end Go.Sx
end
section
set_option maxRecDepth 1000000
namespace Go.Sx
open Go
def QL(S:Nat->Nat->List UInt8)(i a:Nat):Bool:=decide (bw (eu (S a 0)) (eu (S a 1)) (eu (S i 0)) (eu (S i 1))>0)
structure RH (a:Query) (pn n:Nat) (KP KS:Nat->Nat->Int) (SP SS ST:Nat->Nat->List UInt8) (p:Nat->Bool):Prop where
 num:aP p n=pn
 yes:∀i,i<n->p i=true->A9 a.ng (KP (aP p i)) (KS i)=true/\SP (aP p i) 0=SS i 0/\SP (aP p i) 1=SS i 1/\SP (aP p i) 2=SS i 2/\SP (aP p i) 3=SS i 3
 no:∀i,i<n->p i=false->(aP p i<pn->A9 a.ng (KP (aP p i)) (KS i)=false)/\a.top≠0/\a.top<=((aP (QL ST i) n:Nat):Int)
 rt:∀i,i<n->bJ (ST i 0) (ST i 1)=true
def LH(ST:Nat->Nat->List UInt8)(i:Nat)(j:Int):Int:=((aP (QL ST i) j.toNat:Nat):Int)
def zM(p:Nat->Bool)(i:Int):Int:=((aP p i.toNat:Nat):Int)
theorem Ut{q:Query}{pn n:Nat}{KP KS KT:Nat->Nat->Int}{SP SS ST:Nat->Nat->List UInt8}(rt:∀i,i<n->bJ (ST i 0) (ST i 1)=true)(p:n<=1000000)(a:Int)(i:Nat)(hi:i<n):
  gW PP II false (aD II 8 25004) 61 (LJ q q.ng pn n n KP KS KT SP SS ST a i (LH ST i) 0) (NB q q.ng pn n n KP KS KT SP SS ST a i (aP (QL ST i) n:Nat)):=by
 have key:=gW.of (ι:=Nat) iw [j8] (bm PP II []) 1000 (c:=aD II 8 25004) (ir:=false) 61 (λj=>j<=n) (λj=>LJ q q.ng pn n n KP KS KT SP SS ST a i (LH ST i) (j:Int)) (λ_=>NB q q.ng pn n n KP KS KT SP SS ST a i (aP (QL ST i) n:Nat)) (λj=>n-j) (λj=>j+1) 0 A (Nat.zero_le _) λj k=>?_
 ·exact key
 have k:j<=n:=k
 have d:=eP pn q.ng KP SP
 have sr:=eP n q.ng KS SS
 have tr:=eP n q.ng KT ST
 have r:Int.ofNat n=(n:Int):=rfl
 have l:Int.toNat (j:Int)=j:=rfl
 have m:Int.toNat (i:Int)=i:=rfl
 have go:∀Q:Prop,(j<n->Q)->kr [j8] [] 8 25004 61 (LJ q q.ng pn n n KP KS KT SP SS ST a i (LH ST i)) (λ_=>NB q q.ng pn n n KP KS KT SP SS ST a i (aP (QL ST i) n:Nat)) (λj=>j+1) Q (j:Int):=λQ hQ=>by
  rw[Ur,l,m]
  refine Zg (λh=>?_) λh=>?_
  ·have b:j<n:=by omega
   have r1:=rt j b
   have o:=rt i hi
   have s:((aP (QL ST i) j:Nat):Int)<=j:=Int.ofNat_le.2 (jV _ _)
   have c0:LH ST i (j:Int)=((aP (QL ST i) j:Nat):Int):=rfl
   refine cC _ _ (by simp only[bf,bn];omega) (cC _ _ (by simp only[bf,bn];omega) (cC _ _ (by rw[r1,o];rfl) (Zg (λg=>?_) λg=>?_)))
   ·have f:LH ST i ((j:Int)+1)=LH ST i (j:Int)+1:=by
     show((aP (QL ST i) ((j:Int)+1).toNat:Nat):Int)=((aP (QL ST i) j:Nat):Int)+1
     rw[show((j:Int)+1).toNat=j+1 by omega,iE (bW g)];rfl
    refine cC _ _ (aq O O) (cC _ _ (aq O O) ?_)
    exact YG A ⟨bC _ _,YG A ⟨bO _ _,Zf A (Zf A (Zi A (Zi A (Zf A (Zf A (YG A ⟨sr,rfl,Zf f.symm (YG A ⟨tr,Zf A (YG A ⟨d,Zf A (hQ b)⟩)⟩)⟩))))))⟩⟩
   ·have f:LH ST i ((j:Int)+1)=LH ST i (j:Int):=by
     show((aP (QL ST i) ((j:Int)+1).toNat:Nat):Int)=((aP (QL ST i) j:Nat):Int)
     rw[show((j:Int)+1).toNat=j+1 by omega,kO (nZ g)]
    refine cC _ _ (aq O O) ?_
    exact YG A ⟨bC _ _,YG A ⟨bO _ _,Zf A (Zf A (Zi A (Zi A (Zf A (Zf A (YG A ⟨sr,rfl,Zf f.symm (YG A ⟨tr,Zf A (YG A ⟨d,Zf A (hQ b)⟩)⟩)⟩))))))⟩⟩
  ·have e:j=n:=by omega
   subst e
   exact YG A ⟨bC _ _,YG A ⟨bO _ _,Zf A (Zf A (Zi A (Zi A (Zf A (Zf A (YG A ⟨sr,rfl,Zf A (YG A ⟨tr,Zf A (YG A ⟨d,trivial⟩)⟩)⟩))))))⟩⟩
 exact go _ λh=>⟨O,O,rfl⟩
end Go.Sx
end
section
set_option maxRecDepth 1000000
namespace Go.Sx
open Go
theorem UY(p:Nat->Bool)(i:Nat):zM p ((i:Int)+1)=((aP p (i+1):Nat):Int):=by
 unfold zM
 rw[show((i:Int)+1).toNat=i+1 by omega]
theorem Tg{q:Query}{pn n:Nat}{KP KS KT:Nat->Nat->Int}{SP SS ST:Nat->Nat->List UInt8}{p:Nat->Bool}(h:RH q pn n KP KS SP SS ST p)(x:q.ng<=3)(k:n<=1000000)(i:Nat)(hi:i<n)(Q:Prop)(hQ:Q):
  kr [FR] [(25004,61,LJ q q.ng pn n n KP KS KT SP SS ST (zM p i) i (LH ST i) 0,NB q q.ng pn n n KP KS KT SP SS ST (zM p i) i (aP (QL ST i) n:Nat))] 8 17004 44 (Vf q q.ng pn n n KP KS KT SP SS ST (zM p)) (λ_=>Vg q.ng pn KP SP pn) (λi=>i+1) Q (i:Int):=by
 rw[RG]
 have f:=eP pn q.ng KP SP
 have sr:=eP n q.ng KS SS
 have tr:=eP n q.ng KT ST
 have lp:=Ut (q:=q) (pn:=pn) (KP:=KP) (KS:=KS) (KT:=KT) (SP:=SP) (SS:=SS) h.rt k (zM p i) i hi
 have y:Int.ofNat n=(n:Int):=rfl
 have D:Int.ofNat pn=(pn:Int):=rfl
 have l:Int.toNat (i:Int)=i:=rfl
 have m:Int.toNat (zM p i)=aP p i:=rfl
 have a0:zM p (i:Int)=((aP p i:Nat):Int):=rfl
 have o:aP p i<=i:=jV _ _
 have kk:(bA q.ng (ae (KP (aP p i)))&&bA q.ng (ae (KS i))&&Nat.ble q.ng 1000000&&Nat.beq q.ng q.ng)=true:=by rw[kc,kc,kV (O:q.ng<=1000000),ni];rfl
 have e:(decide ((0:Int)<=i)&&decide ((i:Int)<Int.ofNat n))=true:=by simp only[bf,bn];omega
 rw[l,m]
 refine Zg (λ_=>?_) λc=>absurd c O
 cases hp:p i with
 |true=>
  obtain⟨r,s,t,u,v⟩:=h.yes i hi hp
  have lt:aP p i<pn:=h.num▸RJ hi hp
  have g:(decide ((0:Int)<=zM p i)&&decide (zM p i<Int.ofNat pn))=true:=by simp only[bf,bn];omega
  have j:zM p (i:Int)+1=zM p ((i:Int)+1):=by rw[UY,iE hp];rfl
  have beq:∀a b:List UInt8,List.beq a a=true:=λa _=>beq_self_eq_true a
  refine Zg (λ_=>?_) λc=>absurd (O:zM p i<Int.ofNat pn) c
  refine cC _ _ g (cC _ _ e (cC _ _ kk ?_))
  rw[show A9 q.ng (aM (ae (KP (aP p i)))) (aM (ae (KS i)))=true from r,s,t,u,v,beq _ [],beq _ [],beq _ [],beq _ []]
  refine cC _ _ g (cC _ _ e (cC _ _ g (cC _ _ e (cC _ _ (aq O O) (cC _ _ (aq O O) ?_)))))
  exact YG A ⟨bC _ _,YG A ⟨bO _ _,Zf A (Zf A (Zi A (Zi A (Zf A (Zf j (YG A ⟨sr,rfl,YG A ⟨tr,Zf A (YG A ⟨f,hQ⟩)⟩⟩))))))⟩⟩
 |false=>
  obtain⟨n1,w,E⟩:=h.no i hi hp
  have j:zM p (i:Int)=zM p ((i:Int)+1):=by rw[UY,kO hp];rfl
  have d:gW PP II false (aD II 8 25004) 61 (LJ q q.ng pn n n KP KS KT SP SS ST (zM p i) i (LH ST i) 0) (NB q q.ng pn n n KP KS KT SP SS ST (zM p i) i (aP (QL ST i) n:Nat))/\ax q.nw q.nw (an q.nw (au q.C) (au q.C)/\ax q.ng q.ng (an q.ng (aR q.G) (aR q.G)/\aH q.a q.a (aH q.fl q.fl (bI q.nu q.nu (bI q.de q.de (aH q.top q.top (aH (zM p i) (zM p i) (ax n n (an n (aX q.ng KS SS) (aX q.ng KS SS)/\true=true/\aH 0 (LH ST i 0) (ax n n (an n (aX q.ng KT ST) (aX q.ng KT ST)/\aH i i (ax pn pn (an pn (aX q.ng KP SP) (aX q.ng KP SP)/\ah (decide (q.top=0)) False (ah (decide (((aP (QL ST i) n:Nat):Int)<q.top)) False (aa (aN .i64 ((i:Int)+1)) (ax q.nw q.nw (an q.nw (au q.C) (au q.C)/\ax q.ng q.ng (an q.ng (aR q.G) (aR q.G)/\aH q.a q.a (aH q.fl q.fl (bI q.nu q.nu (bI q.de q.de (aH q.top q.top (aH (zM p i) (zM p ((i:Int)+1)) (ax n n (an n (aX q.ng KS SS) (aX q.ng KS SS)/\true=true/\ax n n (an n (aX q.ng KT ST) (aX q.ng KT ST)/\aH ((i:Int)+1) ((i:Int)+1) (ax pn pn (an pn (aX q.ng KP SP) (aX q.ng KP SP)/\Q)))))))))))))))))))))))))))):=
   ⟨lp,YG A ⟨bC _ _,YG A ⟨bO _ _,Zf A (Zf A (Zi A (Zi A (Zf A (Zf A (YG A ⟨sr,rfl,Zf A (YG A ⟨tr,Zf A (YG A ⟨f,Zg (λc=>absurd c w) λ_=>Zg (λc=>absurd c O) λ_=>cC _ _ (aq O O) (YG A ⟨bC _ _,YG A ⟨bO _ _,Zf A (Zf A (Zi A (Zi A (Zf A (Zf j (YG A ⟨sr,rfl,YG A ⟨tr,Zf A (YG A ⟨f,hQ⟩)⟩⟩))))))⟩⟩)⟩)⟩)⟩))))))⟩⟩⟩
  refine Zg (λc=>?_) λ_=>d
  have lt:aP p i<pn:=O
  refine cC _ _ (by simp only[bf,bn];omega) (cC _ _ e (cC _ _ kk ?_))
  rw[show A9 q.ng (aM (ae (KP (aP p i)))) (aM (ae (KS i)))=false from n1 lt]
  exact d
theorem Vj{q:Query}{pn n:Nat}{KP KS KT:Nat->Nat->Int}{SP SS ST:Nat->Nat->List UInt8}{p:Nat->Bool}(h:RH q pn n KP KS SP SS ST p)(i:Nat)(hi:i=n)(Q:Prop):
  kr [FR] [(25004,61,LJ q q.ng pn n n KP KS KT SP SS ST (zM p i) i (LH ST i) 0,NB q q.ng pn n n KP KS KT SP SS ST (zM p i) i (aP (QL ST i) n:Nat))] 8 17004 44 (Vf q q.ng pn n n KP KS KT SP SS ST (zM p)) (λ_=>Vg q.ng pn KP SP pn) (λi=>i+1) Q (i:Int):=by
 rw[RG]
 have a:Int.ofNat n=(n:Int):=rfl
 refine Zg (λc=>absurd c O) λ_=>?_
 exact Zf (by show((aP p i:Nat):Int)=_;rw[hi,h.num]) ⟨rfl,YG A ⟨eP pn q.ng KP SP,trivial⟩⟩
theorem U5{q:Query}{pn n:Nat}{KP KS KT:Nat->Nat->Int}{SP SS ST:Nat->Nat->List UInt8}{p:Nat->Bool}(h:RH q pn n KP KS SP SS ST p)(a:q.ng<=3)(b:n<=1000000):
  gW PP II false (aD II 8 17004) 44 (Vf q q.ng pn n n KP KS KT SP SS ST (zM p) 0) (Vg q.ng pn KP SP pn):=by
 have key:=gW.Vk (ι:=Nat) iw [FR] 1000 (λi=>[(25004,61,LJ q q.ng pn n n KP KS KT SP SS ST (zM p i) i (LH ST i) 0,NB q q.ng pn n n KP KS KT SP SS ST (zM p i) i (aP (QL ST i) n:Nat))]) (c:=aD II 8 17004) (ir:=false) 44 (λi=>i<=n) (λi=>Vf q q.ng pn n n KP KS KT SP SS ST (zM p) (i:Int)) (λ_=>Vg q.ng pn KP SP pn) (λi=>n-i) (λi=>i+1) 0 A (Nat.zero_le _) λi hi=>?_
 ·exact key
 have hi:i<=n:=hi
 by_cases hl:i<n
 ·exact Tg h a b i hl _ ⟨O,O,rfl⟩
 ·exact Vj h i O _
end Go.Sx
end
section
set_option maxRecDepth 100000
namespace Go.Sx
open Go
def zS(q:Query):Query:=⟨q.nw,q.C,q.ng,q.G,q.a,q.fl,q.nu,q.de,0⟩
theorem HA(q:Query):Alike q (zS q):=⟨rfl,rfl,rfl,rfl,rfl,rfl,λ_ _=>rfl⟩
theorem P4{q:Query}(h:ct q=true):ct (zS q)=true:=by
 obtain⟨b,c,a⟩:=qP h
 unfold ct
 have d:eU (zS q)=true:=by
  unfold eU at a⊢
  simp only[bf]at a⊢
  exact⟨⟨a.1.1,rfl⟩,a.2⟩
 rw[show aI 3 (zS q).nw (au (zS q).C)=true from b,show aI 1 (zS q).ng (aR (zS q).G)=true from c,d];rfl
theorem SC{q:Query}{k:Nat}{F:Nat->ay}(b:eU q=true)(ha:eU (zS q)=true)(c:∀j,j<k->bB (F j)=true):
  r8 (zS q) k F=(aV q F k).length/\(∀j,FM (zS q) k F j=dK (og q (aV q F k)) j)/\∀j,oU (zS q) k F j=jC q (og q (aV q F k)) j:=by
 have t:=zO (HA q) b ha F k c
 obtain⟨a,d,e⟩:=Hp (HA q)
 refine⟨?_,λj=>?_,λj=>?_⟩
 ·unfold r8 ju
  rw[if_pos (show(zS q).top=0 from rfl),t]
 ·unfold FM cS
  rw[if_pos (show(zS q).top=0 from rfl),t,a]
 ·unfold oU cS
  rw[if_pos (show(zS q).top=0 from rfl),t,a,d]
theorem SF{q:Query}{k:Nat}{F:Nat->ay}{D:Nat->Int}(a:eU q=true)(ha:eU (zS q)=true)(b:∀j,j<k->bB (F j)=true):
  sb (zS q) k F D=(aV q F k).length/\∀j,xm (zS q) k F D j=jy q F D (og q (aV q F k)) j:=by
 have t:=zO (HA q) a ha F k b
 obtain⟨c,_,_⟩:=Hp (HA q)
 refine⟨?_,λj=>?_⟩
 ·unfold sb ju
  rw[if_pos (show(zS q).top=0 from rfl),t]
 ·unfold xm cS
  rw[if_pos (show(zS q).top=0 from rfl),t,c]
  rfl
theorem VN{q:Query}{m:Nat}{K:Nat->Nat->Int}{S T b:Nat->Nat->List UInt8}{KS:Nat->Nat->Int}{SS ST:Nat->Nat->List UInt8}
  (l:∀j,KS j=K j) (g:∀j,SS j=S j) (f:∀j,ST j=T j)
  (apart:∀i j,i<m->j<m->i≠j->A9 q.ng (K i) (K j)=false)
  (ht:∀i,i<m->bJ (T i 0) (T i 1)=true) (n:∀i,i<m->lY (tv (S i 0,S i 1)) (tv (T i 0,T i 1))/\lY (tv (T i 0,T i 1)) (tv (S i 2,S i 3)))
  (o:∀i,b i 0=S i 0/\b i 1=S i 1/\b i 2=S i 2/\b i 3=S i 3):
  RH q (ju q m b) m (λj=>K (cS q m b j)) KS (λj=>S (cS q m b j)) SS ST (il q m b):=by
 have pos:∀i,i<m->0<(tv (T i 0,T i 1)).2:=λi hi=>by
  have:=ht i hi
  unfold bJ at this
  simp only[bf]at this
  have:=this.1.2
  rw[Nat.blt_eq]at this
  exact this
 have k:∀i,i<m->il q m b i=true->cS q m b (aP (il q m b) i)=i:=λi hi d=>by
  have:aP (il q m b) i<ju q m b:=by rw[xz];exact RJ hi d
  rw[nX q m b this]
  exact wS hi d
 exact {
  num:=(xz q m b).symm
  yes:=λi hi d=>by
   show A9 q.ng (K (cS q m b (aP (il q m b) i))) (KS i)=true/\S (cS q m b (aP (il q m b) i)) 0=SS i 0/\S (cS q m b (aP (il q m b) i)) 1=SS i 1/\S (cS q m b (aP (il q m b) i)) 2=SS i 2/\S (cS q m b (aP (il q m b) i)) 3=SS i 3
   rw[k i hi d,l,g]
   exact⟨List.all_eq_true.2 λ_ _=>bW A,rfl,rfl,rfl,rfl⟩
  no:=λi hi d=>by
   have p:q.top≠0:=λe=>by
    unfold il at d
    rw[if_pos e]at d;cases d
   refine⟨λlt=>?_,p,?_⟩
   ·show A9 q.ng (K (cS q m b (aP (il q m b) i))) (KS i)=false
    rw[nX q m b lt,l]
    rw[xz]at lt
    obtain⟨l1,l2⟩:=DA lt
    exact apart _ _ l1 hi λe=>by rw[e,d]at l2;cases l2
   ·unfold il cQ at d
    rw[if_neg p,iK]at d
    have:aP (xY b i) m<=aP (QL ST i) m:=OM λa ha h=>by
     unfold xY at h
     unfold QL
     obtain⟨s0,r,_,_⟩:=o a
     obtain⟨_,_,s,t⟩:=o i
     rw[s0,r,s,t]at h
     rw[f,f]
     rw[bn]at h⊢
     refine Int.not_le.1 λc=>absurd (xw.2 ?_) (Int.not_le.2 h)
     exact lY.trans (pos a ha) (n a ha).1 (lY.trans (pos i hi) (xw.1 c) (n i hi).2)
    omega
  rt:=λi hi=>by rw[f];exact ht i hi}
theorem VO{q:Query}{k:Nat}{F:Nat->ay}{D:Nat->Int}(c:ct q=true)(d:cX k F=true)(e:r9 k F D):
  RH q (r8 q k F) (aV q F k).length (FM q k F) (FM (zS q) k F) (oU q k F) (oU (zS q) k F) (xm (zS q) k F D) (il q (aV q F k).length (yc q (og q (aV q F k)))):=by
 have b:=jR d
 have a:=(qP c).2.2
 have f:=(qP (P4 c)).2.2
 have hX:=tm a d
 have g:∀i,i<(aV q F k).length->oc q F k (og q (aV q F k) i):=λi hi=>Ho q F k hi
 obtain⟨_,h,j⟩:=SC a f b
 obtain⟨_,t2⟩:=SF (D:=D) a f b
 exact VN (K:=dK (og q (aV q F k))) (S:=jC q (og q (aV q F k))) (T:=jy q F D (og q (aV q F k))) h j t2 J7
  (λi hi=>cz (xl a b e (g i hi) (hX i hi).1) a) (λi hi=>Rp a b e (g i hi)) λi=>⟨rfl,rfl,rfl,rfl⟩
end Go.Sx
end
