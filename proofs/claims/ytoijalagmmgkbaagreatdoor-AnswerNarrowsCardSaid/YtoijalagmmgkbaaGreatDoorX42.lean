/- The proof of a statement of the seat, part 42. -/
import Derived.Test.YtoijalagmmgkbaaGreatDoorX40
import Derived.Test.YtoijalagmmgkbaaGreatDoorX41
import Derived.Test.YtoijalagmmgkbaaGreatDoorX39
import Derived.Test.YtoijalagmmgkbaaGreatDoorX36
set_option linter.all false
set_option linter.defProp false
section
set_option maxRecDepth 100000
namespace Go.Sx
open Go Go.Sort Go.Shelf Go.Proofs
def Yf(x:ay)(l h:Int):ay:=⟨x.t,x.s,x.v,x.w,x.o,x.p,x.d,l,h,x.b⟩
theorem Xx(q:Query)(W:Nat->Int)(x:ay)(l h:Int):Ur q W (Yf x l h)=Ur q W x:=rfl
theorem VY(q:Query)(x:ay)(l h d:Int):dV q (Yf x l h) d=dV q x d:=rfl
theorem Wk{q:Query}{x:ay}{d:Int}(h:x.l<=d/\d<=x.h):qS q x d=dV q x d:=by
 unfold qS xG
 rw[bW (show d>=x.l from h.1),bW h.2];rfl
theorem RD{q:Query}{F c:Nat->ay}{k:Nat}{W:Nat->Int}{lo hi d g:List UInt8×List UInt8}(r:tc q F k W lo hi)(o:tc q c k W d g)(i:∀f,f<k->∃l h,c f=Yf (F f) l h/\(F f).l<=l/\h<=(F f).h):
  lY (tv lo) (tv d)/\lY (tv g) (tv hi):=by
 have a:∀D,r9 k c D->r9 k F D/\Zz q c k W D=Zz q F k W D:=λD p=>by
  have s:r9 k F D:=λf b=>by
   obtain⟨l,h,e,u,v⟩:=i f b
   have:=p f b
   rw[e]at this
   exact⟨Int.le_trans u this.1,Int.le_trans this.2 v⟩
  refine⟨s,?_⟩
  unfold Zz
  have j:(List.range k).filter (λf=>Ur q W (c f)&&qS q (c f) (D f))=(List.range k).filter λf=>Ur q W (F f)&&qS q (F f) (D f):=List.filter_congr λf b=>by
   have b:=List.mem_range.1 b
   rw[Wk (p f b),Wk (s f b)]
   obtain⟨l,h,e,_,_⟩:=i f b
   rw[e,Xx,VY]
  rw[j]
  refine List.map_congr_left λf b=>?_
  obtain⟨l,h,e,_,_⟩:=i f (List.mem_range.1 (List.mem_filter.1 b).1)
  rw[e];rfl
 obtain⟨m,d1,j⟩:=o.VS
 obtain⟨n,t,w⟩:=o.VT
 rw[<-j,<-w,(a m d1).2,(a n t).2]
 exact⟨r.ge m (a m d1).1,r.le n (a n t).1⟩
def zr(q:Query)(l:List Int):Nat:=if q.a=1 then l.length else l.sum.toNat
theorem VZ(l:List Int):du (λj=>l.getD j 0) l.length=l.sum:=by rw[xq,wD]
theorem Wt{q:Query}(ha:q.a=1∨q.a=2)(l:List Int):jO q l.length (λj=>l.getD j 0)=(zr q l,1):=by
 unfold jO zr
 by_cases h:l.length=0
 ·rw[if_pos h]
  have:l=[]:=List.length_eq_zero_iff.1 h
  subst this
  split<;>rfl
 ·rw[if_neg h]
  rcases ha with h1|b
  ·rw[if_pos h1,if_pos h1]
  ·rw[if_neg (O:¬ q.a=1),if_neg (O:¬ q.a=1),if_pos b,VZ]
theorem zK{q:Query}(ha:q.a=1∨q.a=2)(l:List Int):OJ q l=(bu (zr q l),[49]):=by
 unfold OJ pS c8 da
 rw[Wt ha]
 show(bu (zr q l/Nat.gcd (zr q l) 1),bu (1/Nat.gcd (zr q l) 1))=_
 rw[Nat.gcd_one_right,Nat.div_one,Nat.div_one,GR]
theorem Ik{q:Query}(ha:q.a=1∨q.a=2)(l m:List Int):lY (tv (OJ q l)) (tv (OJ q m))↔zr q l<=zr q m:=by
 rw[zK ha,zK ha]
 unfold lY tv
 rw[<-GR]
 simp only[cq,Nat.mul_one]
theorem Jv:∀{l:List Int},(∀x,x∈l->0<=x)->0<=l.sum
 |[],_=>Int.le_refl _
 |a::l,h=>by
  have b:=Jv (l:=l) λx hx=>h x (List.mem_cons_of_mem _ hx)
  have c:=h a List.mem_cons_self
  rw[List.sum_cons];omega
theorem SC{b:Int}:∀{l:List Int},(∀x,x∈l->x<=b)->l.sum<=b*l.length
 |[],_=>zA
 |a::l,h=>by
  have c:=SC (l:=l) λx hx=>h x (List.mem_cons_of_mem _ hx)
  have d:=h a List.mem_cons_self
  rw[List.sum_cons,List.length_cons,Int.natCast_succ,Int.mul_add];omega
theorem Xz{q:Query}(l m:List Int)(hl:∀x,x∈l->0<=x)(a:∀x,x∈m->0<=x):zr q (l++m)=zr q l+zr q m:=by
 have b:=Jv hl
 have c:=Jv a
 unfold zr
 split
 ·exact List.length_append
 ·rw[List.sum_append];omega
theorem OZ{q:Query}{F:Nat->ay}{k:Nat}{W D:Nat->Int}(b:∀j,j<k->bB (F j)=true)(c:r9 k F D):(∀x,x∈Zz q F k W D->0<=x/\x<=4398046511104)/\(Zz q F k W D).length<=k:=by
 refine⟨λx hx=>?_,?_⟩
 ·unfold Zz at hx
  obtain⟨f,a,e⟩:=List.mem_map.1 hx
  have a:=List.mem_range.1 (List.mem_filter.1 a).1
  have v:=jx (b f a)
  have d:=c f a
  rw[<-e]
  unfold VO
  split
  ·omega
  ·split<;>omega
 ·unfold Zz
  rw[List.length_map]
  exact Nat.le_trans (List.length_filter_le _ _) (by rw[List.length_range];exact dw _)
theorem TC{q:Query}{F:Nat->ay}{k:Nat}{W D:Nat->Int}(a:∀j,j<k->bB (F j)=true)(d:k<=400)(b:r9 k F D):zr q (Zz q F k W D)<=1759218604441600:=by
 obtain⟨c,e⟩:=OZ (q:=q) (W:=W) a b
 unfold zr
 split
 ·omega
 ·have:=SC λx hx=>(c x hx).2
  omega
theorem Ve{q:Query}{F:Nat->ay}{k a:Nat}{W D:Nat->Int}(ha:a<=k):Zz q F k W D=Zz q F a W D++Zz q (λj=>F (a+j)) (k-a) W λj=>D (a+j):=by
 obtain⟨b,rfl⟩:∃b,k=a+b:=⟨k-a,O⟩
 unfold Zz
 rw[List.range_add,List.filter_append,List.map_append,List.filter_map,List.map_map,Nat.add_sub_cancel_left]
 rfl
theorem V0{q:Query}{F:Nat->ay}{k a:Nat}{W:Nat->Int}{lo hi p s t u:List UInt8×List UInt8}(c:q.a=1∨q.a=2)(ha:a<=k)(hk:k<=400)(Q:∀j,j<k->bB (F j)=true)(r:tc q F k W lo hi)(r1:tc q F a W p s)(y:tc q (λj=>F (a+j)) (k-a) W t u):
  (∃n m,n<=1759218604441600/\m<=1759218604441600/\p=(bu n,[49])/\t=(bu m,[49])/\lo=(bu (n+m),[49]))/\∃n m,n<=1759218604441600/\m<=1759218604441600/\s=(bu n,[49])/\u=(bu m,[49])/\hi=(bu (n+m),[49]):=by
 have H:∀j,j<a->bB (F j)=true:=λj hj=>Q j O
 have I:∀j,j<k-a->bB (F (a+j))=true:=λj hj=>Q (a+j) O
 have cut:∀D,r9 k F D->r9 a F D/\r9 (k-a) (λj=>F (a+j)) λj=>D (a+j):=λD C=>⟨λf o=>C f O,λf o=>C (a+f) O⟩
 have add:∀D,r9 k F D->zr q (Zz q F k W D)=zr q (Zz q F a W D)+zr q (Zz q (λj=>F (a+j)) (k-a) W λj=>D (a+j)):=λD C=>by
  obtain⟨v,w⟩:=cut D C
  rw[Ve ha,Xz _ _ (λx hx=>((OZ H v).1 x hx).1) λx hx=>((OZ I w).1 x hx).1]
 have g:∀d b,r9 a F d->r9 (k-a) (λj=>F (a+j)) b->∃D,r9 k F D/\zr q (Zz q F k W D)=zr q (Zz q F a W d)+zr q (Zz q (λj=>F (a+j)) (k-a) W b):=λd b h1 h2=>by
  have R:r9 k F λf=>if f<a then d f else b (f-a):=λf o=>by
   show(F f).l<=(if f<a then _ else _)/\(if f<a then _ else _)<=(F f).h
   by_cases h:f<a
   ·rw[if_pos h];exact h1 f h
   ·rw[if_neg h]
    have:(F (a+(f-a))).l<=b (f-a)/\b (f-a)<=(F (a+(f-a))).h:=h2 (f-a) O
    rw[show a+(f-a)=f by omega]at this
    exact this
  refine⟨_,R,?_⟩
  ·have E:Zz q F a W (λf=>if f<a then d f else b (f-a))=Zz q F a W d:=by
    unfold Zz
    have e:(List.range a).filter (λf=>Ur q W (F f)&&qS q (F f) (if f<a then d f else b (f-a)))=(List.range a).filter λf=>Ur q W (F f)&&qS q (F f) (d f):=List.filter_congr λf o=>by rw[if_pos (List.mem_range.1 o)]
    rw[e]
    refine List.map_congr_left λf o=>?_
    show VO q (F f) (if f<a then _ else _)=_
    rw[if_pos (List.mem_range.1 (List.mem_filter.1 o).1)]
   have G:(λj=>(λf=>if f<a then d f else b (f-a)) (a+j))=b:=funext λj=>by
    show(if a+j<a then _ else _)=_
    rw[if_neg O,show a+j-a=j by omega]
   rw[add _ R,E,G]
 obtain⟨J,S,T⟩:=r.VS
 obtain⟨d,d1,E⟩:=r1.VS
 obtain⟨b,U,G⟩:=y.VS
 obtain⟨K,V,X⟩:=r.VT
 obtain⟨Y,f1,g1⟩:=r1.VT
 obtain⟨Z,f2,g2⟩:=y.VT
 constructor
 ·refine⟨_,_,TC H O d1,TC I O U,E.symm.trans (zK c _),G.symm.trans (zK c _),?_⟩
  obtain⟨D,i,L⟩:=g d b d1 U
  obtain⟨v,w⟩:=cut J S
  have M:=r.ge D i
  have N:=r1.ge _ v
  have P:=y.ge _ w
  rw[<-T,Ik c,L]at M
  rw[<-E,Ik c]at N
  rw[<-G,Ik c]at P
  rw[<-T,zK c]
  have:=add J S
  rw[show zr q (Zz q F k W J)=zr q (Zz q F a W d)+zr q (Zz q (λj=>F (a+j)) (k-a) W b) by omega]
 ·refine⟨_,_,TC H O f1,TC I O f2,g1.symm.trans (zK c _),g2.symm.trans (zK c _),?_⟩
  obtain⟨D,i,L⟩:=g Y Z f1 f2
  obtain⟨v,w⟩:=cut K V
  have M:=r.le D i
  have N:=r1.le _ v
  have P:=y.le _ w
  rw[<-X,Ik c,L]at M
  rw[<-g1,Ik c]at N
  rw[<-g2,Ik c]at P
  rw[<-X,zK c]
  have:=add K V
  rw[show zr q (Zz q F k W K)=zr q (Zz q F a W Y)+zr q (Zz q (λj=>F (a+j)) (k-a) W Z) by omega]
end Go.Sx
end
section
set_option maxRecDepth 1000000
namespace Go.Sx
open Go
def Yi(b:Nat->(Nat->ay)->Nat)(c:Nat->(Nat->ay)->Nat->Nat->Int)(d:Nat->(Nat->ay)->Nat->Nat->List UInt8)(nw:Nat)(f:Nat->List AV)(ng:Nat)(g:Nat->List AV)(a fl:Int)(nu de:List UInt8)(top:Int)(k:Nat)(h:Nat->List AV):Prop :=
 Wh (λ_=>b k (bP h)) (λ_=>c k (bP h)) (λ_=>d k (bP h)) nw f ng g a fl nu de top k h
open Classical in
noncomputable def RE(b:Nat->(Nat->ay)->Nat)(c:Nat->(Nat->ay)->Nat->Nat->Int)(d:Nat->(Nat->ay)->Nat->Nat->List UInt8)(nw:Nat)(f:Nat->List AV)(ng:Nat)(g:Nat->List AV)(a fl:Int)(nu de:List UInt8)(top:Int)(k:Nat)(h:Nat->List AV):Bool:=decide (Yi b c d nw f ng g a fl nu de top k h)
open Classical in
theorem SF{b:Nat->(Nat->ay)->Nat}{c:Nat->(Nat->ay)->Nat->Nat->Int}{d:Nat->(Nat->ay)->Nat->Nat->List UInt8}{nw:Nat}{f:Nat->List AV}{ng:Nat}{g:Nat->List AV}{a fl:Int}{nu de:List UInt8}{top:Int}{k:Nat}{h:Nat->List AV}:RE b c d nw f ng g a fl nu de top k h=true↔Yi b c d nw f ng g a fl nu de top k h:=by
 unfold RE
 exact decide_eq_true_iff
noncomputable def Yk(b:Nat->(Nat->ay)->Nat)(c:Nat->(Nat->ay)->Nat->Nat->Int)(d:Nat->(Nat->ay)->Nat->Nat->List UInt8):aC PP II:=aC.s9 13
 (λX args m=>match args with
  |[.agg [.az nw 3 f,.az ng 1 g,.int .i64 a,.int .i64 fl,.str nu,.str de,.int .i64 top],.az k 10 h]=>X.ak (RE b c d nw f ng g a fl nu de top k h) (m (.bK [.az (b k (bP h)) 9 (aX ng (c k (bP h)) (d k (bP h))),.int .i64 0]))
  |_=>X.fail)
 λX sem hX args m h=>by
  split at h
  ·rename_i nw f ng g a fl nu de top k e
   obtain⟨p,n⟩:=hX.ak _ _ h
   obtain⟨⟨a1,a2,q,a4,r⟩,i,j,l⟩:=SF.1 p
   obtain⟨o,hi,s⟩:=U7 a1 a2 q
   have i:_=b k (bP e):=i
   have j:_=c k (bP e):=j
   have l:_=d k (bP e):=l
   rw[<-i,<-j,<-l]at n
   refine⟨_,n,λ_=>rfl,λσ=>?_,af.dA (A8 s r) (toQ_le o hi) (fq a4)⟩
   show [AV.bD σ (.agg _),_]=_
   rw[nU o];rfl
  ·exact zR
noncomputable def Wu:aC PP II:=aC.pure 18
 (λX args b=>match args with
  |[.int .i64 c,.int .i64 n]=>X.ak (decide (0<n)&&aN .i64 c) (b (.int .i64 (av c n)))
  |_=>X.fail)
 λX sem hX args b h=>by
  split at h
  ·obtain⟨a,d⟩:=hX.ak _ _ h
   simp only[bf,bn]at a
   exact⟨_,d,λ_=>rfl,λ_=>rfl,PT a.2 a.1⟩
  ·exact zR
noncomputable def YB(c:Nat)(b:Nat)(d:Nat->Nat->Int)(e:Nat->Nat->List UInt8)(g:Nat->(Nat->ay)->Nat)(i:Nat->(Nat->ay)->Nat->Nat->Int)(j:Nat->(Nat->ay)->Nat->Nat->List UInt8):aC PP II where
 f:=13
 spec:=λX args H a kp=>match Nat.beq H.n c with
  |true=>(XX (λ_=>b) (λ_=>d) (λ_=>e)).spec X args H a kp
  |false=>(Yk g i j).spec X args H a kp
 ok:=λX sem hX args H a kp h=>by
  split at h
  ·exact(XX (λ_=>b) (λ_=>d) (λ_=>e)).ok X sem hX args H a kp h
  ·exact(Yk g i j).ok X sem hX args H a kp h
end Go.Sx
end
section
set_option maxRecDepth 1000000
namespace Go.Sx
open Go
noncomputable def hN(n:Nat)(a:List (Nat×Zv)):AH:={n:=n,t:=Tr.ofList ([(0,.cells [.az 5 2 aA] .ro),(1,.cells [.str [48],.str [49]] .ro),(3,.cells [.map (some 13)] .ro),(6,.cells dz (.ex 20)),(13,.map lS)]++a)}
noncomputable def Zs(k:Nat)(F:Nat->ay)(g pn:Nat)(KP:Nat->Nat->Int)(SP:Nat->Nat->List UInt8)(a:Int)(b:List (Nat×AV)):Tr AV:=Tr.ofList ([(5,.int .i64 a),(13,.bool true),(14,.ptr 15 0 0 0),(15,.az k 10 (λj=>aF (F j))),(16,.az pn 9 (aX g KP SP))]++b)
noncomputable def YC(q:Query)(k:Nat)(F:Nat->ay)(g pn:Nat)(KP:Nat->Nat->Int)(SP:Nat->Nat->List UInt8)(a:Int)(mn:Nat)(b:Nat->Nat->Int)(c:Nat->Nat->List UInt8)(i:Int):St:={t:=Zs k F g pn KP SP a [(20,.az mn 9 (aX g b c)),(22,.int .i64 i)],nt:=252,H:=hN 68 [(15,.cells (aY q) (.ty 32))],df:=[]}
noncomputable def YD(q:Query)(k:Nat)(F:Nat->ay)(g pn:Nat)(KP:Nat->Nat->Int)(SP:Nat->Nat->List UInt8)(a:Int):GE:=.one (.x 0 {t:=Zs k F g pn KP SP a [],nt:=252,H:=hN 68 [(15,.cells (aY q) (.ty 32))],df:=[]})
theorem XA(q:Query)(k:Nat)(F:Nat->ay)(g pn:Nat)(KP:Nat->Nat->Int)(SP:Nat->Nat->List UInt8)(n:Int)(mn:Nat)(o:Nat->Nat->Int)(b:Nat->Nat->List UInt8)(i:Int)(Q:Prop):(kr [Sw,j8] [] 7 17004 68 (YC q k F g pn KP SP n mn o b) (λ_=>YD q k F g pn KP SP n) (λi=>i+1) Q i)=(let c:=(aM (ae (o i.toNat)));let d:=(decide (0<=i)&&decide (i<Int.ofNat mn));let e:=(eD pn g (CZ (aX g KP SP)) (nV (aX g KP SP)) c 0);let f:=(eD pn g (CZ (aX g KP SP)) (nV (aX g KP SP)) c 1);let h:=(eD pn g (CZ (aX g KP SP)) (nV (aX g KP SP)) c 2);let l:=(eD pn g (CZ (aX g KP SP)) (nV (aX g KP SP)) c 3);let m:=(an k (λj=>aF (F j)) λj=>aF (F j));(ah (decide (i<Int.ofNat mn)) (aa d (aa (wT g pn (aX g KP SP)&&bA g (ae (o i.toNat))&&Nat.ble pn 1000000&&Nat.ble g 1000000) (aa d (aa (bJ e f&&bJ (b i.toNat 0) (b i.toNat 1)) (ah (decide (bw (Zt e) (Zt f) (Zt (b i.toNat 0)) (Zt (b i.toNat 1))>0)) False (aa d (aa (bJ h l&&bJ (b i.toNat 2) (b i.toNat 3)) (ah (decide (bw (Zt h) (Zt l) (Zt (b i.toNat 2)) (Zt (b i.toNat 3))<0)) False (aa (aN .i64 (i+1)) (zyN q.nw (zyR q.nw (au q.C) (zyN q.ng (zyR q.ng (aR q.G) (zyI q.a (zyI q.fl (zyB q.nu (zyB q.de (zyI q.top (zyB [48] (zyB [49] (zyR 5 aA (zyN k (m/\zyI n (true=true/\zyN pn (zyR pn (aX g KP SP) (zyN mn (zyR mn (aX g o b) (zyI (i+1) Q)))))))))))))))))))))))))))) (zyN q.nw (zyR q.nw (au q.C) (zyN q.ng (zyR q.ng (aR q.G) (zyI q.a (zyI q.fl (zyB q.nu (zyB q.de (zyI q.top (zyB [48] (zyB [49] (zyR 5 aA (zyN k (m/\zyI n (true=true/\zyN pn (zyR pn (aX g KP SP) True)))))))))))))))))):=U
noncomputable def YH(q:Query)(k:Nat)(F:Nat->ay)(g pn:Nat)(KP:Nat->Nat->Int)(SP:Nat->Nat->List UInt8)(a:Int)(i:Int):St:={t:=Zs k F g pn KP SP a [(24,.int .i64 i)],nt:=252,H:=hN 68 [(15,.cells (aY q) (.ty 32))],df:=[]}
noncomputable def YJ(q:Query)(k:Nat)(F:Nat->ay)(g pn:Nat)(KP:Nat->Nat->Int)(SP:Nat->Nat->List UInt8)(b a:Int):GE:=.one (.x 2 {t:=Zs k F g pn KP SP b [(24,.int .i64 a)],nt:=252,H:=hN 68 [(15,.cells (aY q) (.ty 32))],df:=[]})
theorem XD(q:Query)(k:Nat)(F:Nat->ay)(g pn:Nat)(KP:Nat->Nat->Int)(SP:Nat->Nat->List UInt8)(b a:Int)(i:Int)(Q:Prop):(kr [v8 18 (.inl A)] [] 7 25014 68 (YH q k F g pn KP SP b) (λ_=>YJ q k F g pn KP SP b a) (λi=>i+1) Q i)=(let c:=(zyN q.nw (zyR q.nw (au q.C) (zyN q.ng (zyR q.ng (aR q.G) (zyI q.a (zyI q.fl (zyB q.nu (zyB q.de (zyI q.top (zyB [48] (zyB [49] (zyR 5 aA (zyN k ((an k (λj=>aF (F j)) λj=>aF (F j))/\zyI b (true=true/\zyN pn (zyR pn (aX g KP SP) (aH i a True)))))))))))))))));(ah (decide (i<Int.ofNat k)) (aa (decide (0<=i)&&decide (i<Int.ofNat k)) (aa (aN .i64 b&&true) (aa (decide (ay.t (F i.toNat)=ay.t (F i.toNat))) (ah (decide (ay.t (F i.toNat)<av b 40)) (aa (aN .i64 (i+1)) (zyN q.nw (zyR q.nw (au q.C) (zyN q.ng (zyR q.ng (aR q.G) (zyI q.a (zyI q.fl (zyB q.nu (zyB q.de (zyI q.top (zyB [48] (zyB [49] (zyR 5 aA (zyN k ((an k (λj=>aF (F j)) λj=>aF (F j))/\zyI b (true=true/\zyN pn (zyR pn (aX g KP SP) (zyI (i+1) Q)))))))))))))))))) c)))) c)):=U
noncomputable def YO(g pn:Nat)(KP:Nat->Nat->Int)(SP:Nat->Nat->List UInt8)(a:Nat)(b:Nat->Nat->Int)(c:Nat->Nat->List UInt8)(d:Nat)(e:Nat->Nat->Int)(f:Nat->Nat->List UInt8)(i:Int):St:={t:=Tr.ofList [(13,.bool true),(16,.az pn 9 (aX g KP SP)),(25,.az a 9 (aX g b c)),(27,.az d 9 (aX g e f)),(29,.int .i64 i)],nt:=252,H:={n:=100,t:=Tr.ofList [(6,.cells dz (.ex 20))]},df:=[]}
noncomputable def YP:GE:=.one (.x 4 {t:=Tr.ofList [(13,.bool true)],nt:=252,H:={n:=100,t:=.e},df:=[]})
theorem XE(g pn:Nat)(KP:Nat->Nat->Int)(SP:Nat->Nat->List UInt8)(f:Nat)(b:Nat->Nat->Int)(c:Nat->Nat->List UInt8)(h:Nat)(d:Nat->Nat->Int)(e:Nat->Nat->List UInt8)(i:Int)(Q:Prop):(kr [Sw,Wg] [] 7 32004 100 (YO g pn KP SP f b c h d e) (λ_=>YP) (λi=>i+1) Q i)=(let a:=(aM (ae (KP i.toNat)));let j:=(decide (0<=i)&&decide (i<Int.ofNat pn));let k:=(eD f g (CZ (aX g b c)) (nV (aX g b c)) a 0);let l:=(eD h g (CZ (aX g d e)) (nV (aX g d e)) a 0);let m:=(eD f g (CZ (aX g b c)) (nV (aX g b c)) a 2);let n:=(eD h g (CZ (aX g d e)) (nV (aX g d e)) a 2);(ah (decide (i<Int.ofNat pn)) (aa j (aa (wT g f (aX g b c)&&bA g (ae (KP i.toNat))&&Nat.ble f 1000000&&Nat.ble g 1000000) (aa j (aa (wT g h (aX g d e)&&bA g (ae (KP i.toNat))&&Nat.ble h 1000000&&Nat.ble g 1000000) (aa (isNat k&&isNat l&&decide (eD f g (CZ (aX g b c)) (nV (aX g b c)) a 1=[49])&&decide (eD h g (CZ (aX g d e)) (nV (aX g d e)) a 1=[49])&&Nat.ble (Zt k) 2305843009213693952&&Nat.ble (Zt l) 2305843009213693952) (aa (isNat m&&isNat n&&decide (eD f g (CZ (aX g b c)) (nV (aX g b c)) a 3=[49])&&decide (eD h g (CZ (aX g d e)) (nV (aX g d e)) a 3=[49])&&Nat.ble (Zt m) 2305843009213693952&&Nat.ble (Zt n) 2305843009213693952) (aa j (ah (!(List.beq (SP i.toNat 0) (bu (Zt k+Zt l))&&(List.beq (SP i.toNat 1) [49]&&true))) False (aa j (ah (!(List.beq (SP i.toNat 2) (bu (Zt m+Zt n))&&(List.beq (SP i.toNat 3) [49]&&true))) False (aa (aN .i64 (i+1)) (zyN h (zyR h (aX g d e) (zyN f (zyR f (aX g b c) (true=true/\zyI (i+1) (zyN pn (zyR pn (aX g KP SP) Q)))))))))))))))))) (true=true/\True))):=U
end Go.Sx
end
section
set_option maxRecDepth 1000000
namespace Go.Sx
open Go
theorem TD(n g:Nat)(K:Nat->Nat->Int)(S:Nat->Nat->List UInt8)(W:Nat->Int):(eD n g (CZ (aX g K S)) (nV (aX g K S)) W 0=eD n g K S W 0/\eD n g (CZ (aX g K S)) (nV (aX g K S)) W 1=eD n g K S W 1)/\eD n g (CZ (aX g K S)) (nV (aX g K S)) W 2=eD n g K S W 2/\eD n g (CZ (aX g K S)) (nV (aX g K S)) W 3=eD n g K S W 3:=by
 have e:qP n g (CZ (aX g K S)) W=qP n g K W:=rfl
 unfold eD
 rw[e]
 cases qP n g K W<;>exact⟨⟨rfl,rfl⟩,rfl,rfl⟩
structure Wv (g pn mn:Nat) (KP:Nat->Nat->Int) (SP:Nat->Nat->List UInt8) (KN:Nat->Nat->Int) (SN:Nat->Nat->List UInt8):Prop where
 p:∀i,i<mn->bJ (eD pn g KP SP (KN i) 0) (eD pn g KP SP (KN i) 1)=true/\bJ (eD pn g KP SP (KN i) 2) (eD pn g KP SP (KN i) 3)=true
 n:∀i,i<mn->bJ (SN i 0) (SN i 1)=true/\bJ (SN i 2) (SN i 3)=true
 lo:∀i,i<mn->lY (tv (eD pn g KP SP (KN i) 0,eD pn g KP SP (KN i) 1)) (tv (SN i 0,SN i 1))
 hi:∀i,i<mn->lY (tv (SN i 2,SN i 3)) (tv (eD pn g KP SP (KN i) 2,eD pn g KP SP (KN i) 3))
theorem XF{q:Query}{k:Nat}{F:Nat->ay}{g pn mn:Nat}{KP:Nat->Nat->Int}{SP:Nat->Nat->List UInt8}{a:Nat->Nat->Int}{d:Nat->Nat->List UInt8}(h:Wv g pn mn KP SP a d)(f:g<=1000000)(l:pn<=1000000)(E:mn<=1000000)(e:Int):
  Zu PP II false (aD II 7 17004) 68 (YC q k F g pn KP SP e mn a d 0) (YD q k F g pn KP SP e):=by
 have key:=Zu.of (ι:=Nat) iw [Sw,j8] (bm PP II []) 1000 (c:=aD II 7 17004) (ir:=false) 68 (λi=>i<=mn) (λi=>YC q k F g pn KP SP e mn a d (i:Int)) (λ_=>YD q k F g pn KP SP e) (λi=>mn-i) (λi=>i+1) 0 A (Nat.zero_le _) λi hi=>?_
 ·exact key
 have hi:i<=mn:=hi
 have G:Int.ofNat mn=(mn:Int):=rfl
 have fk:an k (λj=>aF (F j)) λj=>aF (F j):=λ_ _ σ=>cL σ _
 have go:∀Q:Prop,(i<mn->Q)->kr [Sw,j8] [] 7 17004 68 (YC q k F g pn KP SP e mn a d) (λ_=>YD q k F g pn KP SP e) (λi=>i+1) Q (i:Int):=λQ hQ=>by
  rw[XA,show Int.toNat (i:Int)=i from rfl,show aM (ae (a i))=a i from rfl]
  dsimp only
  obtain⟨⟨m,f1⟩,o,r⟩:=TD pn g KP SP (a i)
  rw[m,f1,o,r]
  refine Zg (λhl=>?_) λhl=>?_
  ·have b:i<mn:=by omega
   have s:=hQ b
   have t:(decide ((0:Int)<=i)&&decide ((i:Int)<Int.ofNat mn))=true:=by simp only[bf,bn];omega
   have u:(wT g pn (aX g KP SP)&&bA g (ae (a i))&&Nat.ble pn 1000000&&Nat.ble g 1000000)=true:=by rw[ZK,kc,kV l,kV f];rfl
   obtain⟨v,w⟩:=h.p i b
   obtain⟨n1,y⟩:=h.n i b
   have C :¬ (bw (Zt (eD pn g KP SP (a i) 0)) (Zt (eD pn g KP SP (a i) 1)) (Zt (d i 0)) (Zt (d i 1))>0):=Int.not_lt.2 (xw.2 (h.lo i b))
   have D :¬ (bw (Zt (eD pn g KP SP (a i) 2)) (Zt (eD pn g KP SP (a i) 3)) (Zt (d i 2)) (Zt (d i 3))<0):=Int.not_lt.2 (FW.2 (h.hi i b))
   rw[t,u,v,w,n1,y,nZ C,nZ D,show aN .i64 ((i:Int)+1)=true from aq O O,Bool.and_self]
   have nt:∀{x:Prop},x->ah false False x:=λh=>h
   repeat' (with_reducible first|exact s|refine nt ?_|exact trivial|rfl|exact fk|exact eP _ _ _ _|exact bC _ _|exact bO _ _|exact aZ|refine YG ?_ ?_|refine Zf ?_ ?_|refine Zi ?_ ?_|refine Ze ?_ ?_|refine And.intro ?_ ?_)
  ·repeat' (with_reducible first|exact trivial|rfl|exact fk|exact eP _ _ _ _|exact bC _ _|exact bO _ _|exact aZ|refine YG ?_ ?_|refine Zf ?_ ?_|refine Zi ?_ ?_|refine And.intro ?_ ?_)
 exact go _ λh=>⟨O,O,rfl⟩
def ru(F:Nat->ay)(v:Int):Nat->Nat
 |0=>0
 |k+1=>if ru F v k=k/\(F k).t<v then k+1 else ru F v k
theorem Pb(F:Nat->ay)(v:Int):∀k,ru F v k<=k
 |0=>dw _
 |k+1=>by
  have:=Pb F v k
  unfold ru
  split<;>omega
theorem TF(F:Nat->ay)(v:Int):∀k j,j<ru F v k->(F j).t<v
 |0,j,h=>absurd h (lZ _)
 |k+1,j,h=>by
  unfold ru at h
  split at h
  ·rename_i c
   by_cases e:j=k
   ·rw[e];exact c.2
   ·exact TF F v k j O
  ·exact TF F v k j h
theorem T9(F:Nat->ay)(v:Int):∀k,ru F v k<k->¬ (F (ru F v k)).t<v
 |0,h=>absurd h (lZ _)
 |k+1,h=>by
  unfold ru at h⊢
  split at h
  ·omega
  ·rename_i c
   rw[if_neg c]
   by_cases e:ru F v k=k
   ·rw[e]
    exactλh=>c ⟨e,h⟩
   ·exact T9 F v k (by have:=Pb F v k;omega)
theorem XI{q:Query}{k:Nat}{F:Nat->ay}{g pn:Nat}{KP:Nat->Nat->Int}{SP:Nat->Nat->List UInt8}(p:k<=1000)(a:Int)(l:aN .i64 a=true):
  Zu PP II false (aD II 7 25014) 68 (YH q k F g pn KP SP a 0) (YJ q k F g pn KP SP a (ru F (av a 40) k:Nat)):=by
 have r:=Pb F (av a 40) k
 have key:=Zu.of (ι:=Nat) iw [v8 18 (.inl A)] (bm PP II []) 1000 (c:=aD II 7 25014) (ir:=false) 68 (λi=>i<=ru F (av a 40) k) (λi=>YH q k F g pn KP SP a (i:Int)) (λ_=>YJ q k F g pn KP SP a (ru F (av a 40) k:Nat)) (λi=>k-i) (λi=>i+1) 0 A (Nat.zero_le _) λi hi=>?_
 ·exact key
 have hi:i<=ru F (av a 40) k:=hi
 have s:Int.ofNat k=(k:Int):=rfl
 have fk:an k (λj=>aF (F j)) λj=>aF (F j):=λ_ _ σ=>cL σ _
 have go:∀Q:Prop,(i<ru F (av a 40) k->Q)->kr [v8 18 (.inl A)] [] 7 25014 68 (YH q k F g pn KP SP a) (λ_=>YJ q k F g pn KP SP a (ru F (av a 40) k:Nat)) (λi=>i+1) Q (i:Int):=λQ hQ=>by
  rw[XD,show Int.toNat (i:Int)=i from rfl,l]
  have b:i=ru F (av a 40) k->(i:Int)=((ru F (av a 40) k:Nat):Int):=λe=>by rw[<-e]
  refine Zg (λhl=>?_) λhl=>?_
  ·have f:i<k:=by omega
   have m:(decide ((0:Int)<=i)&&decide ((i:Int)<Int.ofNat k))=true:=by simp only[bf,bn];omega
   refine cC _ _ m (cC _ _ A (cC _ _ (bW A) (Zg (λc=>?_) λc=>?_)))
   ·have d:i<ru F (av a 40) k:=Nat.lt_of_le_of_ne hi λe=>T9 F (av a 40) k (e▸f) (e▸c)
    have n:=hQ d
    have o:aN .i64 ((i:Int)+1)=true:=aq O O
    repeat' (with_reducible first|exact n|exact o|exact trivial|rfl|exact fk|exact eP _ _ _ _|exact bC _ _|exact bO _ _|exact aZ|refine YG ?_ ?_|refine Zf ?_ ?_|refine Zi ?_ ?_|refine Ze ?_ ?_|refine And.intro ?_ ?_)
   ·have e:=b (Nat.le_antisymm hi (Nat.not_lt.1 λh=>c (TF F (av a 40) k i h)))
    exact ZI
  ·have e:=b O
   exact ZI
 exact go _ λh=>⟨O,O,rfl⟩
def VL(a b c:List UInt8×List UInt8):Prop := ∃n m:Nat,n<=1759218604441600/\m<=1759218604441600/\a=(bu n,[49])/\b=(bu m,[49])/\c=(bu (n+m),[49])
theorem XJ{g pn d e:Nat}{KP f j:Nat->Nat->Int}{SP k l:Nat->Nat->List UInt8}(w:g<=1000000)(hp:pn<=1000000)(hl:d<=1000000)(K:e<=1000000)
  (h:∀i,i<pn->VL (eD d g f k (KP i) 0,eD d g f k (KP i) 1) (eD e g j l (KP i) 0,eD e g j l (KP i) 1) (SP i 0,SP i 1)/\VL (eD d g f k (KP i) 2,eD d g f k (KP i) 3) (eD e g j l (KP i) 2,eD e g j l (KP i) 3) (SP i 2,SP i 3)):
  Zu PP II false (aD II 7 32004) 100 (YO g pn KP SP d f k e j l 0) YP:=by
 have key:=Zu.of (ι:=Nat) iw [Sw,Wg] (bm PP II []) 1000 (c:=aD II 7 32004) (ir:=false) 100 (λi=>i<=pn) (λi=>YO g pn KP SP d f k e j l (i:Int)) (λ_=>YP) (λi=>pn-i) (λi=>i+1) 0 A (Nat.zero_le _) λi hi=>?_
 ·exact key
 have hi:i<=pn:=hi
 have em:Int.ofNat pn=(pn:Int):=rfl
 have beq:∀a b:List UInt8,List.beq a a=true:=λa _=>beq_self_eq_true a
 have go:∀Q:Prop,(i<pn->Q)->kr [Sw,Wg] [] 7 32004 100 (YO g pn KP SP d f k e j l) (λ_=>YP) (λi=>i+1) Q (i:Int):=λQ hQ=>by
  rw[XE,show Int.toNat (i:Int)=i from rfl,show aM (ae (KP i))=KP i from rfl]
  dsimp only
  obtain⟨⟨L,f1⟩,M,N⟩:=TD d g f k (KP i)
  obtain⟨⟨P,r1⟩,R,S⟩:=TD e g j l (KP i)
  rw[L,f1,M,N,P,r1,R,S]
  refine Zg (λT=>?_) λT=>⟨rfl,trivial⟩
  have p:i<pn:=O
  have U:=hQ p
  have V:(decide ((0:Int)<=i)&&decide ((i:Int)<Int.ofNat pn))=true:=by simp only[bf,bn];omega
  obtain⟨⟨n,m,n1,y,C,D,E⟩,s,t,F,G,H,I,J⟩:=h i p
  have W:SP i 1=[49]:=congrArg (·.2) E
  have X:SP i 3=[49]:=congrArg (·.2) J
  generalize q:List.beq (SP i 1) (_::_)=z1
  generalize r:List.beq (SP i 3) (_::_)=z3
  have Y:z1=true:=q.symm.trans (by rw[W];rfl)
  have Z:z3=true:=r.symm.trans (by rw[X];rfl)
  clear q r
  subst Y Z
  rw[show eD d g f k (KP i) 0=bu n from congrArg (·.1) C,show eD d g f k (KP i) 1=[49]from congrArg (·.2) C,show eD e g j l (KP i) 0=bu m from congrArg (·.1) D,show eD e g j l (KP i) 1=[49]from congrArg (·.2) D,show SP i 0=bu (n+m)from congrArg (·.1) E,
   show eD d g f k (KP i) 2=bu s from congrArg (·.1) H,show eD d g f k (KP i) 3=[49]from congrArg (·.2) H,show eD e g j l (KP i) 2=bu t from congrArg (·.1) I,show eD e g j l (KP i) 3=[49]from congrArg (·.2) I,show SP i 2=bu (s+t)from congrArg (·.1) J]
  have u:=cq
  have o:∀v,v<=1759218604441600->isNat (bu v)=true:=λv hv=>dc (jL O)
  have le:∀v,v<=1759218604441600->Nat.ble v 2305843009213693952=true:=λv hv=>kV O
  have b1:(wT g d (aX g f k)&&bA g (ae (KP i))&&Nat.ble d 1000000&&Nat.ble g 1000000)=true:=by rw[ZK,kc,kV hl,kV w];rfl
  have b2:(wT g e (aX g j l)&&bA g (ae (KP i))&&Nat.ble e 1000000&&Nat.ble g 1000000)=true:=by rw[ZK,kc,kV K,kV w];rfl
  rw[u,u,u,u,o n n1,o m y,o s F,o t G,le n n1,le m y,le s F,le t G,b1,b2,V,beq _ [],beq _ [],show aN .i64 ((i:Int)+1)=true from aq O O]
  have d1:(true&&true&&decide (([49]:List UInt8)=[49])&&decide (([49]:List UInt8)=[49])&&true&&true)=true:=by rw[bW A];rfl
  have nt:∀{x:Prop},x->ah (!(true&&(true&&true))) False x:=λh=>h
  repeat' (first|with_reducible exact U|with_reducible exact trivial|with_reducible rfl|with_reducible exact eP _ _ _ _|with_reducible refine YG ?_ ?_|with_reducible refine Zf ?_ ?_|with_reducible refine Ze ?_ ?_|with_reducible refine And.intro ?_ ?_|with_reducible refine nt ?_|exact d1)
 exact go _ λh=>⟨O,O,rfl⟩
end Go.Sx
end
section
set_option maxRecDepth 1000000
namespace Go.Sx
open Go
theorem uu(X:Nat->Nat->Int)(j:Nat):(1<=cW X j 0/\cW X j 0<=8)/\(1<=cW X j 1/\cW X j 1<=4)/\(-1<=cW X j 2/\cW X j 2<=38):=by
 have a:=cj (c:=X j 0) (n:=11) O
 have b:=cj (c:=X j 1) (n:=4) O
 have d:=cj (c:=X j 2) (n:=40) O
 refine⟨?_,?_,?_⟩
 ·show 1<=ma (X j 0)/\ma (X j 0)<=8
  unfold ma
  split
  ·omega
  ·rename_i h;have:=of_decide_eq_false h;omega
 ·show 1<=1+av (X j 1) 4/\1+av (X j 1) 4<=4;omega
 ·show -1<=av (X j 2) 40-1/\av (X j 2) 40-1<=38;omega
theorem xA{l m:List Int}{i:Nat}{d:Int}(h:i<l.length):(l++m).getD i d=l.getD i d:=by
 rw[List.getD_eq_getElem?_getD,List.getD_eq_getElem?_getD,List.getElem?_append_left h]
theorem qQ(p:Int):∀(k i:Nat),i<(bM p k).length->(1<=(bM p k).getD i 0/\(bM p k).getD i 0<=(k:Int))/\(i=0∨(bM p k).getD (i-1) 0<(bM p k).getD i 0)
 |0,i,h=>by simp[bM]at h
 |k+1,i,h=>by
  have b:=qQ p k
  unfold bM at h⊢
  split at h
  ·rename_i c
   simp only[List.length_append,List.length_singleton]at h
   by_cases e:i<(bM p k).length
   ·have:=b i e
    rw[xA e]
    refine⟨O,?_⟩
    rcases this.2 with a|a
    ·exact .inl a
    ·right;rw[xA O];exact a
   ·have d:i=(bM p k).length:=by omega
    have el:(bM p k++[(k:Int)+1]).getD i 0=(k:Int)+1:=by
     rw[d,List.getD_eq_getElem?_getD,List.getElem?_append_right (dw _),Nat.sub_self];rfl
    rw[el]
    refine⟨O,?_⟩
    by_cases a:i=0
    ·exact .inl a
    ·right
     have:=b (i-1) O
     rw[xA O]
     omega
  ·rename_i c
   have:=b i h
   refine⟨O,this.2⟩
theorem OO{k:Nat}(h:k<11):oa (wy k) (wz k)=true:=List.any_eq_true.2 ⟨k,List.mem_range.2 h,zA⟩
theorem OP(agg:Int)(n:Nat)(X:Nat->Nat->Int)(g top:Int):eU (cJ agg n X g top)=true:=by
 have k:=qQ (av g 64) 6
 have hl:=rH (av g 64) 6
 have s:=cj (c:=agg) (n:=5) O
 have t:=cj (c:=Int.tdiv agg 5) (n:=2) O
 have l:=cj (c:=Int.tdiv agg 10) (n:=11) O
 have ht:=cj (c:=top) (n:=5) O
 unfold eU
 simp only[bf,bn]
 refine⟨⟨⟨⟨⟨?_,hl⟩,?_⟩,?_⟩,?_⟩,?_⟩
 ·show min n 6<=6;omega
 ·refine List.all_eq_true.2 λj _=>?_
  have:=uu X j
  show(decide (1<=cW X j 0)&&decide (cW X j 0<=8)&&decide (1<=cW X j 1)&&decide (cW X j 1<=4)&&decide (-1<=cW X j 2)&&decide (cW X j 2<=4398046511104))=true
  simp only[bf,bn]
  omega
 ·refine List.all_eq_true.2 λj m=>?_
  have:=k j (List.mem_range.1 m)
  show(decide (1<=(bM (av g 64) 6).getD j 0)&&decide ((bM (av g 64) 6).getD j 0<=6)&&(Nat.beq j 0||decide ((bM (av g 64) 6).getD (j-1) 0<(bM (av g 64) 6).getD j 0)))=true
  rw[bW this.1.1,bW (show(bM (av g 64) 6).getD j 0<=6 from this.1.2),Bool.true_and,Bool.true_and]
  rcases this.2 with h|h
  ·rw[h];rfl
  ·rw[bW h,Bool.or_true]
 ·show(decide (0<=(cJ agg n X g top).top)&&decide ((cJ agg n X g top).top<=100)&&(decide ((cJ agg n X g top).top<=0)||Nat.blt 0 (bM (av g 64) 6).length))=true
  have e:(cJ agg n X g top).top=match decide (Int.ofNat (bM (av g 64) 6).length>0)with|true=>av top 5|false=>0:=rfl
  rw[e]
  cases d:decide (Int.ofNat (bM (av g 64) 6).length>0)with
  |true=>
   have d:=pT d
   have:0<(bM (av g 64) 6).length:=by
    have:((bM (av g 64) 6).length:Int)>0:=d
    omega
   simp only
   rw[bW (O:0<=av top 5),bW (O:av top 5<=100),eV this,Bool.or_true];rfl
  |false=>rfl
 ·unfold EV
  have o:(cJ agg n X g top).a=1+av agg 5:=rfl
  have p:(cJ agg n X g top).fl=match decide (1+av agg 5>1)with|true=>7+av (Int.tdiv agg 5) 2|false=>0:=rfl
  have q:(cJ agg n X g top).nu=match decide (1+av agg 5=5)with|true=>wy (Int.toNat (av (Int.tdiv agg 10) 11))|false=>[]:=rfl
  have r:(cJ agg n X g top).de=match decide (1+av agg 5=5)with|true=>wz (Int.toNat (av (Int.tdiv agg 10) 11))|false=>[]:=rfl
  rw[o,p,q,r]
  generalize av agg 5=a at*
  have b:(decide (7+av (Int.tdiv agg 5) 2=7)||decide (7+av (Int.tdiv agg 5) 2=8))=true:=by
   simp only[Bool.or_eq_true,bn];omega
  have:a=0∨a=4∨(1<=a/\a<=3):=O
  rcases this with rfl|rfl|h
  ·rfl
  ·have f:decide ((1:Int)+4>1)=true:=rfl
   have i:decide ((1:Int)+4=5)=true:=rfl
   rw[f,i]
   simp only
   rw[b,OO O]
   simp
  ·have f:decide (1+a>1)=true:=bW O
   have i:decide (1+a=5)=false:=nZ O
   rw[f,i]
   simp only
   rw[b,bW (O:2<=1+a),bW (O:1+a<=4)]
   simp
theorem J8(agg:Int)(n:Nat)(X:Nat->Nat->Int)(g top:Int):aI 3 (cJ agg n X g top).nw (au (cJ agg n X g top).C)=true:=by
 refine List.all_eq_true.2 λj _=>?_
 have:=uu X j
 show(aN .i64 (cW X j 0)&&(aN .i64 (cW X j 1)&&(aN .i64 (cW X j 2)&&true)))=true
 rw[aq O O,aq O O,aq O O];rfl
theorem J9(agg:Int)(n:Nat)(X:Nat->Nat->Int)(g top:Int):aI 1 (cJ agg n X g top).ng (aR (cJ agg n X g top).G)=true:=by
 refine List.all_eq_true.2 λj a=>?_
 have:=qQ (av g 64) 6 j (List.mem_range.1 a)
 show(aN .i64 ((bM (av g 64) 6).getD j 0)&&true)=true
 rw[aq O O];rfl
end Go.Sx
end
section
set_option maxRecDepth 1000000
namespace Go.Sx
open Go
theorem RM(q:Query)(n:Nat)(F:Nat->ay):r8 q n F<=n:=by
 have h:=(lG q F n).len
 unfold r8 ju
 split
 ·exact h
 ·exact Nat.le_trans (jV _ _) h
end Go.Sx
end
section
set_option maxRecDepth 100000
namespace Go.Sx
open Go Go.Sort Go.Shelf Go.Proofs
theorem Ww{q:Query}{k:Nat}{F:Nat->ay}(b:ct q=true)(a:q.top=0)(c:cX k F=true)(i:Nat)(hi:i<r8 q k F):tc q F k (FM q k F i) (oU q k F i 0,oU q k F i 1) (oU q k F i 2,oU q k F i 3):=by
 have hl:i<(aV q F k).length:=by
  unfold r8 ju at hi
  rw[if_pos a]at hi;exact hi
 have d:FM q k F i=dK (og q (aV q F k)) i:=by unfold FM cS;rw[if_pos a]
 have e:oU q k F i=jC q (og q (aV q F k)) i:=by unfold oU cS;rw[if_pos a]
 rw[d,e]
 exact TP b c (u4 q.ng (aV q F k).length (fj q.ng (aV q F k)) hl)
theorem tc.Zn{q:Query}{F:Nat->ay}{k:Nat}{W:Nat->Int}{lo hi:List UInt8×List UInt8}(a:eU q=true)(b:∀j,j<k->bB (F j)=true)(s:k<=400)(r:tc q F k W lo hi):bJ lo.1 lo.2=true/\bJ hi.1 hi.2=true:=by
 have one:∀D,r9 k F D->bJ (OJ q (Zz q F k W D)).1 (OJ q (Zz q F k W D)).2=true:=λD c=>by
  obtain⟨d,t⟩:=OZ (q:=q) (W:=W) b c
  refine cz (dn O λi hi=>?_) a
  refine d _ ?_
  rw[List.getD_eq_getElem?_getD,mo hi]
  exact List.getElem_mem _
 obtain⟨f,d1,h⟩:=r.VS
 obtain⟨l,m,o⟩:=r.VT
 rw[<-h,<-o]
 exact⟨one f d1,one l m⟩
theorem VM{k a:Nat}{F:Nat->ay}(h:Good k F)(ha:a<=k):Good a F:=⟨λj b=>h.val j O,λj b=>h.ord j O⟩
theorem SG{k a:Nat}{F:Nat->ay}(h:Good k F):Good (k-a) λj=>F (a+j):=⟨λj b=>h.val (a+j) O,λj b=>h.ord (a+j) O⟩
def zU(F:Nat->ay)(s:Nat)(l h:Int)(i:Nat):ay:=if i=s then Yf (F s) l h else F i
theorem V1{x:ay}{l h:Int}(hx:bB x=true)(a:x.l<=l)(b:l<=h)(c:h<=x.h):bB (Yf x l h)=true:=by
 unfold bB at hx⊢
 simp only[bf,bn]at hx⊢
 show _/\_
 simp only[Yf]
 omega
theorem RF{k s:Nat}{F:Nat->ay}{l h:Int}(c:Good k F)(e:s<k)(f:(F s).l<=l)(g:l<=h)(i:h<=(F s).h):Good k (zU F s l h) where
 val j d:=by
  unfold zU
  split
  ·exact V1 (c.val s e) f g i
  ·exact c.val j d
 ord j d:=by
  have:=c.ord j d
  unfold Bb at this⊢
  unfold zU
  split<;>split<;>rename_i a b<;>first
   |(subst a;omega)
   |(subst a;exact this)
   |(subst b;exact this)
   |exact this
theorem Wx{q:Query}{F o:Nat->ay}{k g pn mn:Nat}{KP e:Nat->Nat->Int}{SP m:Nat->Nat->List UInt8}(v:eU q=true)(w:k<=400)(y:∀j,j<k->bB (F j)=true)(s:∀j,j<k->bB (o j)=true)
  (t:∀W,tc q F k W (eD pn g KP SP W 0,eD pn g KP SP W 1) (eD pn g KP SP W 2,eD pn g KP SP W 3)) (u:∀i,i<mn->tc q o k (e i) (m i 0,m i 1) (m i 2,m i 3)) (x:∀f,f<k->∃l h,o f=Yf (F f) l h/\(F f).l<=l/\h<=(F f).h):Wv g pn mn KP SP e m where
 p i _:=by
  have r:=t (e i)
  generalize eD pn g KP SP (e i) 0=a at r⊢
  generalize eD pn g KP SP (e i) 1=b at r⊢
  generalize eD pn g KP SP (e i) 2=c at r⊢
  generalize eD pn g KP SP (e i) 3=d at r⊢
  have:=tc.Zn v y w r
  exact this
 n i hi:=by
  have r:=u i hi
  have:=tc.Zn v s w r
  exact this
 lo i hi:=(RD (t (e i)) (u i hi) x).1
 hi i hi:=(RD (t (e i)) (u i hi) x).2
theorem Wy(F:Nat->ay){k s:Nat}{l h:Int}(c:(F s).l<=l)(d:h<=(F s).h)(f:Nat)(_:f<k):∃a b,zU F s l h f=Yf (F f) a b/\(F f).l<=a/\b<=(F f).h:=by
 by_cases e:f=s
 ·exact⟨l,h,by rw[e];exact if_pos A,by rw[e];exact c,by rw[e];exact d⟩
 ·refine⟨(F f).l,(F f).h,?_,Int.le_refl _,Int.le_refl _⟩
  unfold zU
  rw[if_neg e];rfl
theorem Zd{q:Query}{k s:Nat}{F:Nat->ay}{l h:Int}(b:ct q=true)(f:q.top=0)(a:Good k F)(c:k<=400)(g:s<k)(d:(F s).l<=l)(i:l<=h)(e:h<=(F s).h):
  Wv q.ng (r8 q k F) (r8 q k (zU F s l h)) (FM q k F) (oU q k F) (FM q k (zU F s l h)) (oU q k (zU F s l h)):=
 Wx (mY b).2.2 c a.val (RF a g d i e).val (Rz b f (a.UI c)) (Ww b f ((RF a g d i e).UI c)) (Wy F d e)
theorem XM{q:Query}{k a:Nat}{F:Nat->ay}(c:ct q=true)(d:q.top=0)(b:Good k F)(e:k<=400)(ha:a<=k)(f:q.a=1∨q.a=2)(i:Nat)(hi:i<r8 q k F):
  VL (eD (r8 q a F) q.ng (FM q a F) (oU q a F) (FM q k F i) 0,eD (r8 q a F) q.ng (FM q a F) (oU q a F) (FM q k F i) 1) (eD (r8 q (k-a) λj=>F (a+j)) q.ng (FM q (k-a) λj=>F (a+j)) (oU q (k-a) λj=>F (a+j)) (FM q k F i) 0,eD (r8 q (k-a) λj=>F (a+j)) q.ng (FM q (k-a) λj=>F (a+j)) (oU q (k-a) λj=>F (a+j)) (FM q k F i) 1) (oU q k F i 0,oU q k F i 1)/\
  VL (eD (r8 q a F) q.ng (FM q a F) (oU q a F) (FM q k F i) 2,eD (r8 q a F) q.ng (FM q a F) (oU q a F) (FM q k F i) 3) (eD (r8 q (k-a) λj=>F (a+j)) q.ng (FM q (k-a) λj=>F (a+j)) (oU q (k-a) λj=>F (a+j)) (FM q k F i) 2,eD (r8 q (k-a) λj=>F (a+j)) q.ng (FM q (k-a) λj=>F (a+j)) (oU q (k-a) λj=>F (a+j)) (FM q k F i) 3) (oU q k F i 2,oU q k F i 3):=
 V0 f ha e (λj g=>b.val j g) (Ww c d (b.UI e) i hi) (Rz c d ((VM b ha).UI O) _) (Rz c d ((SG b).UI O) _)
end Go.Sx
end
