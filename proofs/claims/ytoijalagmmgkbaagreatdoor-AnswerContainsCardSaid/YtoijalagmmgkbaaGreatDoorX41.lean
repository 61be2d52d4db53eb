/- The proof of a statement of the seat, part 41. -/
import Derived.Test.YtoijalagmmgkbaaGreatDoorX40
set_option linter.all false
set_option linter.defProp false
set_option maxRecDepth 1000000
namespace Go.Sx
open Go
open List renaming mem_cons_of_mem->B,mem_cons_self->z,append_nil->d_,getElem?_cons_zero->f_,take_succ_cons->g_,range->h_,getD->i_,drop_zero->j_,take_zero->k_
open Option renaming some->a_,none->n_
open Go.IntKind renaming i64->b_
open Go.Value renaming int->c_,string->l_,okWide->m_
open _root_.Array renaming ext'->e_
noncomputable section
section
open Go.Deep Go.Proofs
open Go.Proofs.YtoijalagmmgkbaaGreatDoor (Rows.answerContainsRow)
def Kc{W:World}(hL:laidMetH PP Rows.answerContainsRow.laid W):∃b el fr ms a,W.heap[2]? =a_ (.cells #[.map (a_ b)] el fr)/\W.heap[b]? =a_ (.map ms a)/\∀ρ,ke ρ lS ms.toList:=by
 obtain⟨g,t,cs,fuel,p,j,ht,l,m⟩:=hL.funcs (n := "latecomer/answer.aggregates") (d:=_) (by
  show _∈[_,_,_,_,_,_,_,_,_,_,_,_,_]
  iterate 11 apply B
  exact z)
 obtain rfl:=Option.some.inj (Xc.symm.trans j)
 obtain rfl:=Option.some.inj ((F3 2 _ rfl).symm.trans ht)
 obtain⟨b,ms,a,c,o,q,r⟩:=Kb (N:=ig) (F:=uv) Tryz.underlying179 Tryz.underlying3 Tryz.underlying178 rfl Yr Yq Tryz.underlying100 U2 (h:=m)
 obtain⟨el,fr,k⟩:=nY j l
 rw[OT c]at k
 refine⟨b,el,fr,ms,a,k,o,λρ=>?_⟩
 obtain⟨e,k1,k2,s⟩:=OS (V:=λi=> .agg #[.func (.func (uv i)) #[] #[]]) q r
 have fn:∀f,VR ρ (.agg [.fn f [] []]) (.agg #[.func (.func f) #[] #[]]):=λf=>by
  simp only[VR]
  exact⟨[.func (.func f) #[] #[]],rfl,aU.aL.2 ⟨by simp only[VR];exact⟨[],[],rfl,rfl,rfl⟩,rfl⟩⟩
 refine⟨e,?_,?_,(λh=>zE),s⟩
 ·rw[k1]
  have i:∀n,VR ρ (.int b_ n) (.int b_ n):=λn=>Y
  exact aU.aL.2 ⟨i 1,aU.aL.2 ⟨i 2,aU.aL.2 ⟨i 3,aU.aL.2 ⟨i 4,aU.aL.2 ⟨i 5,rfl⟩⟩⟩⟩⟩
 ·rw[k2]
  exact aU.aL.2 ⟨fn 335,aU.aL.2 ⟨fn 337,aU.aL.2 ⟨fn 339,aU.aL.2 ⟨fn 340,aU.aL.2 ⟨fn 341,rfl⟩⟩⟩⟩⟩
def xE{W:World}{cs:Array Value}{fuel:Nat}{p:List MemPlace}{a b:List UInt8}(l:DataW.trod (λ_=>()) PP W 0 (λ_=>true) false fuel 30 cs.toList=a_ (.agg [.lit (.string a),.lit (.string b)],p)):cs= #[.string ⟨a.toArray⟩,.string ⟨b.toArray⟩]:=by
 obtain⟨m,n,_,hx,hl,h,d⟩:=DataW.trod_struct Tryz.underlying30 l
 have hl:cs.toList.length=2:=hl.trans Y9
 simp only[Prod.mk.injEq]at hx
 obtain⟨hx,_⟩:=hx
 match m,h,hx with
 |[f,g],_,hx=>
  match c:cs.toList,hl with
  |[j,k],_=>
   have i:DataW.trod (λ_=>()) Tryz.prog W 0 (λ_=>true) false n 9 (([j,k].drop 0).take (Tryz.prog.cellsOf 9))=a_ f:=by have:=d 0 _ A;rw[c]at this;exact this
   have g1:DataW.trod (λ_=>()) Tryz.prog W 0 (λ_=>true) false n 9 (([j,k].drop 1).take (Tryz.prog.cellsOf 9))=a_ g:=by have:=d 1 _ A;rw[c]at this;exact this
   rw[show Tryz.prog.cellsOf 9=1 from c9]at i g1
   simp only[j_,g_,k_,f_]at i
   simp only[List.drop_succ_cons,j_,g_,k_,List.getElem?_cons_succ,f_]at g1
   obtain⟨f,p0⟩:=f
   obtain⟨g,r⟩:=g
   have e:([.lit (.string a),.lit (.string b)]:List (DataW Unit))=[f,g]:=by injection hx
   simp only[List.cons.injEq,and_true]at e
   obtain⟨rfl,rfl⟩:=e
   have o:=F2 Tryz.underlying9 i
   have q:=F2 Tryz.underlying9 g1
   subst o q
   apply e_
   exact c
def Kd{W:World}(hL:laidMetH PP Rows.answerContainsRow.laid W):∃el fr,W.heap[0]? =a_ (.cells #[.string ⟨[48].toArray⟩,.string ⟨[49].toArray⟩] el fr):=by
 obtain⟨g,t,cs,fuel,p,a,ht,c,e⟩:=sj hL (n := "latecomer/answer.zero") (d:=_) (by
  show _∈[_,_,_,_,_,_,_,_,_,_,_,_,_]
  iterate 10 apply B
  exact z) A
 obtain rfl:=Option.some.inj (Xb.symm.trans a)
 obtain rfl:=Option.some.inj ((F3 0 _ rfl).symm.trans ht)
 obtain⟨el,fr,b⟩:=nY a c
 rw[xE e]at b
 exact⟨el,fr,b⟩
def RW{W:World}(hL:laidMetH PP Rows.answerContainsRow.laid W):∃el fr,W.heap[4]? =a_ (.cells #[.string ⟨[48].toArray⟩,.string ⟨[49].toArray⟩] el fr):=by
 obtain⟨g,t,cs,fuel,p,a,ht,c,e⟩:=sj hL (n := "latecomer/estimate.zero") (d:=_) (by
  show _∈[_,_,_,_,_,_,_,_,_,_,_,_,_]
  iterate 6 apply B
  exact z) A
 obtain rfl:=Option.some.inj (Y7.symm.trans a)
 obtain rfl:=Option.some.inj ((F3 4 _ rfl).symm.trans ht)
 obtain⟨el,fr,b⟩:=nY a c
 rw[xE e]at b
 exact⟨el,fr,b⟩
def RX{W:World}(hL:laidMetH PP Rows.answerContainsRow.laid W):∃el fr,W.heap[5]? =a_ (.cells #[.string ⟨[49].toArray⟩,.string ⟨[49].toArray⟩] el fr):=by
 obtain⟨g,t,cs,fuel,p,a,ht,c,e⟩:=sj hL (n := "latecomer/estimate.one") (d:=_) (by
  show _∈[_,_,_,_,_,_,_,_,_,_,_,_,_]
  iterate 7 apply B
  exact z) A
 obtain rfl:=Option.some.inj (Y8.symm.trans a)
 obtain rfl:=Option.some.inj ((F3 5 _ rfl).symm.trans ht)
 obtain⟨el,fr,b⟩:=nY a c
 rw[xE e]at b
 exact⟨el,fr,b⟩
def OU{W:World}(hL:laidMetH PP Rows.answerContainsRow.laid W):∃el fr,W.heap[3]? =a_ (.cells (([7,9,11,99]).map λa=>c_ b_ a).toArray el fr):=by
 obtain⟨g,t,cs,fuel,p,b,ht,c,e⟩:=sj hL (n := "latecomer/sketch.limits") (d:=_) (by
  show _∈[_,_,_,_,_,_,_,_,_,_,_,_,_]
  iterate 9 apply B
  exact z) A
 obtain rfl:=Option.some.inj (Yn.symm.trans b)
 obtain rfl:=Option.some.inj ((F3 3 _ rfl).symm.trans ht)
 obtain⟨el,fr,f⟩:=nY b c
 have:=Lib.cells_of_tab (k:=.i64) (zs:=[7,9,11,99]) Tryz.underlying202 Tryz.underlying3 c3 Yt e
 refine⟨el,fr,?_⟩
 rw[f]
 congr 2
 apply e_
 rw[this]
def OV{W:World}(hL:laidMetH PP Rows.answerContainsRow.laid W):∃el fr,W.heap[8]? =a_ (.cells ((Lib.pow10Tab).map λa=>c_ .u64 a).toArray el fr):=by
 obtain⟨g,t,cs,fuel,p,b,ht,c,e⟩:=sj hL (n := "internal/strconv.uint64pow10") (d:=_) (by
  show _∈[_,_,_,_,_,_,_,_,_,_,_,_,_]
  iterate 2 apply B
  exact z) A
 obtain rfl:=Option.some.inj (Yo.symm.trans b)
 obtain rfl:=Option.some.inj ((F3 8 _ rfl).symm.trans ht)
 obtain⟨el,fr,f⟩:=nY b c
 have:=Lib.cells_of_tab (k:=.u64) (zs:=Lib.pow10Tab) Tryz.underlying354 Tryz.underlying261 Ys Yu e
 refine⟨el,fr,?_⟩
 rw[f]
 congr 2
 apply e_
 rw[this]
def OW{ρ:Env}{W:World}(o:xB ρ W)(hL:laidMetH PP Rows.answerContainsRow.laid W):∃v el fr,W.heap[1]? =a_ (.cells #[v] el fr)/\VR ρ (.ab 5 2 aA) v/\v.oneCell'=true:=by
 obtain⟨g,t,cs,fuel,p,C,ht,I,J⟩:=hL.funcs (n := "latecomer/query.operators") (d:=_) (by
  show _∈[_,_,_,_,_,_,_,_,_,_,_,_,_]
  iterate 8 apply B
  exact z)
 obtain rfl:=Option.some.inj (Ym.symm.trans C)
 obtain rfl:=Option.some.inj ((F3 1 _ rfl).symm.trans ht)
 obtain⟨el,fr,E⟩:=nY C I
 rcases open_slice Tryz.underlying149 J with⟨_,hx⟩|⟨a,len,cap,m,n,D,T,q,_,hl,_,hm,hx,r⟩
 ·exact absurd hx (λe=>zC)
 rw[OT q]at E
 refine⟨_,el,fr,E,?_,rfl⟩
 simp only[Prod.mk.injEq]at hx
 have w:DataW.slice [.agg [.lit (.string []),.nil],.agg [.lit (.string [61]),.held ((di 49).1::(di 49).2)],.agg [.lit (.string [33,61]),.held ((di 50).1::(di 50).2)],.agg [.lit (.string [60]),.held ((di 51).1::(di 51).2)],.agg [.lit (.string [62,61]),.held ((di 52).1::(di 52).2)]] []=DataW.slice ((h_ len).map D) ((h_ (m-len)).map λj=>D (len+j)):=hx.1
 have i:[.agg [.lit (.string []),.nil],.agg [.lit (.string [61]),.held ((di 49).1::(di 49).2)],.agg [.lit (.string [33,61]),.held ((di 50).1::(di 50).2)],.agg [.lit (.string [60]),.held ((di 51).1::(di 51).2)],.agg [.lit (.string [62,61]),.held ((di 52).1::(di 52).2)]]=(h_ len).map D:=by injection w
 have K:len=5:=by have:=congrArg List.length i;simpa using this.symm
 subst K
 have b:∀j d,[.agg [.lit (.string []),.nil],.agg [.lit (.string [61]),.held ((di 49).1::(di 49).2)],.agg [.lit (.string [33,61]),.held ((di 50).1::(di 50).2)],.agg [.lit (.string [60]),.held ((di 51).1::(di 51).2)],.agg [.lit (.string [62,61]),.held ((di 52).1::(di 52).2)]][j]? =a_ d->j<5->D j=d:=λj d h x=>by
  rw[i,List.getElem?_map,List.getElem?_range x]at h
  exact Option.some.inj h
 have L:5<=m:=by rw[hm];split<;>omega
 have F:PP.cellsOf 148=2:=c148
 have str:∀s n c p,DataW.trod (funcToken PP) PP W 0 (λ_=>true) true n 9 [c]=a_ (.lit (.string s),p)->VR ρ.bare (.str s) c/\c.oneCell'=true:=λs n c p h=>Yl (F2 Tryz.underlying9 h)
 refine Gy o O hl λj x=>?_
 obtain⟨l,G,M⟩:=r j O
 rw[F]at G
 obtain⟨_,H,N⟩:=World.cells?_some G
 have cells:∀k,k<2->W.cell? (a.add (j*2+k))=l[k]? :=λk P=>by
  have:=N k P
  rw[<-add_add];exact this
 have f:∀y d1 a0 a1,D j= .agg [y,d1]->aA j=[a0,a1]->(∀n c p,DataW.trod (funcToken PP) PP W 0 (λ_=>true) true n 9 [c]=a_ (y,p)->VR ρ.bare a0 c/\c.oneCell'=true)->(∀n c p,DataW.trod (funcToken PP) PP W 0 (λ_=>true) true n 146 [c]=a_ (d1,p)->VR ρ.bare a1 c/\c.oneCell'=true)->
   ∃us:List Value,us.length=2/\(∀u∈us,u.oneCell'=true)/\aU ρ.bare (aA j) us/\∀k,k<2->W.cell? (a.add (j*2+k))=us[k]? :=λy d1 a0 a1 Q R S k1=>by
  obtain⟨us,rfl,g1,g2,g3⟩:=Sm (ρ:=ρ.bare) (a0:=a0) (a1:=a1) Tryz.underlying148 rfl rfl c9 c146 F M Q S k1
  exact⟨l,g1,g2,by rw[R];exact g3,cells⟩
 match j,x with
 |0,_=>exact f _ _ _ _ (b 0 _ A O) A (str []) λn c p h=>by rw[U0 Tryz.underlying146 h];exact⟨Y,rfl⟩
 |1,_=>exact f _ _ _ _ (b 1 _ A O) A (str [61]) λn c p h=>HC (func_of_trod Tryz.underlying146 Xd h)
 |2,_=>exact f _ _ _ _ (b 2 _ A O) A (str [33,61]) λn c p h=>HC (func_of_trod Tryz.underlying146 Xe h)
 |3,_=>exact f _ _ _ _ (b 3 _ A O) A (str [60]) λn c p h=>HC (func_of_trod Tryz.underlying146 Xf h)
 |4,_=>exact f _ _ _ _ (b 4 _ A O) A (str [62,61]) λn c p h=>HC (func_of_trod Tryz.underlying146 Xg h)
 |j+5,h=>exact absurd h O
end
section
open Go.Deep Go.ChangeShapes Go.WideShapes
def sk(W:World)(b:Nat):Env where
 pl l:=if l<12 then a_ (ux l,match W.heap[ux l]? with|some (.cells cs _ _)=>cs.size|_=>0)else if l=13 then a_ (b,0)else n_
 fz k:=match W.heap[k]? with|some (.cells cs _ _)=>a_ cs.toList|_=>n_
def DD(W:World)(b:Nat):xB (sk W b) W:=λk cs el fr h=>by
 show(match W.heap[k]? with|some (.cells cs _ _)=>a_ cs.toList|_=>n_)=_
 rw[h]
def OX(W:World)(b:Nat):fw where
 w0:=W
 Z k:=k<W.heap.size
 G:=12
 X _:=False
 E _:=False
 DI:=sk W b
def OY(l:Nat):(Hm.get l).rw=false:=sh (P:=λ_ b=>b.rw=false) A A A A A A A A (λ_=>rfl) l
def nh{ρ:Env}{W:World}(b:xB ρ W){l g:Nat}{cs:Array Value}{el:TypeId}{fr:Nat×Nat}{a:List AV}(h:W.heap[g]? =a_ (.cells cs el fr))(c:ρ l=a_ (g,cs.size))(d:aU ρ a cs.toList)(f:∀v∈cs.toList,v.oneCell'=true):aJ ρ W (ρ l) a .ro:=by
 refine .inr ⟨g,cs.size,cs.toList,[],el,fr,c,?_,zB,d,⟨(λe=>zC),(λ_ e=>zC),(λ_ e=>zC)⟩,f,λ_=>?_⟩
 ·rw[d_];exact h
 ·rw[d_];exact b g cs el fr h
def Bp(ρ:Env)(k:IntKind):∀l:List Int,aU ρ (l.map λa=>AV.int k a) (l.map λa=>c_ k a)
 |[]=>rfl
 |_::l=>aU.aL.2 ⟨Y,Bp ρ k l⟩
def U3{W:World}{b:Nat}(ops:∃v el fr,W.heap[1]? =a_ (.cells #[v] el fr)/\VR (sk W b) (.ab 5 2 aA) v/\v.oneCell'=true)(zero:∃el fr,W.heap[0]? =a_ (.cells #[.string ⟨[48].toArray⟩,.string ⟨[49].toArray⟩] el fr))
  (q:∃el fr,W.heap[3]? =a_ (.cells (([7,9,11,99]:List Int).map λd=>c_ b_ d).toArray el fr)) (E:∃el fr,W.heap[4]? =a_ (.cells #[.string ⟨[48].toArray⟩,.string ⟨[49].toArray⟩] el fr)) (F:∃el fr,W.heap[5]? =a_ (.cells #[.string ⟨[49].toArray⟩,.string ⟨[49].toArray⟩] el fr))
  (s:∃el fr,W.heap[8]? =a_ (.cells (Lib.pow10Tab.map λd=>c_ .u64 d).toArray el fr)) (o:∃el fr ms f,W.heap[2]? =a_ (.cells #[.map (a_ b)] el fr)/\W.heap[b]? =a_ (.map ms f)/\∀ρ,ke ρ lS ms.toList):
  Rel (OX W b) (sk W b) Hm W:=by
 have i:=DD W b
 have pl:∀l cs el fr,l<12->W.heap[ux l]? =a_ (.cells cs el fr)->sk W b l=a_ (ux l,cs.size):=λl cs el fr t h=>by
  show(if l<12 then a_ (ux l,match W.heap[ux l]? with|some (.cells cs _ _)=>cs.size|_=>0)else _)=_
  rw[if_pos t,h]
 obtain⟨v,G,H,y,I,J⟩:=ops
 obtain⟨K,L,z1⟩:=zero
 obtain⟨M,Q,l1⟩:=q
 obtain⟨R,S,z2⟩:=E
 obtain⟨T,U,C⟩:=F
 obtain⟨u,w,D⟩:=s
 obtain⟨V,X,ms,f,a1,a2,Z⟩:=o
 have n:∀l,14<=l->Hm.get l= .dead:=λl hl=>by
  rw[FZ,if_neg O,if_neg O,if_neg O,if_neg O,if_neg O,if_neg O,if_neg O,if_neg O]
 have two:∀(a c:List UInt8),∀x∈(#[l_ ⟨a.toArray⟩,l_ ⟨c.toArray⟩]:Array Value).toList,x.oneCell'=true:=λa c x hx=>by
  simp only[List.mem_cons,List.not_mem_nil,or_false]at hx
  rcases hx with rfl|rfl<;>rfl
 have j:∀(k:IntKind)(l:List Int),∀x∈(l.map λd=>c_ k d),x.oneCell'=true:=λk l x hx=>by
  obtain⟨d,_,rfl⟩:=List.mem_map.1 hx
  rfl
 refine {dF:=λl=>?_,sep:=λl l' r N N' _ h=>(by rw[OY]at h;cases h),gL:=λl r N h=>(by rw[OY]at h;cases h),gH:=λk p=>?_,size:=dw _,os:=rfl,output:=rfl,tape:=rfl,top:=λl hl=>?_,fp:=λg t=>⟨_,if_pos t⟩,hid:=λ_ _ _ _ _ h=>h,env:=λ_ h=>h.elim,low:=n,qY:=λk vs h=>?_,pV:=λl r N h=>(by rw[OY]at h;cases h),sn:=λ_ h=>h.elim,qZ:=λ_ _ h=>h}
 ·refine sh (P:=λl dF=>bp (sk W b) W (sk W b l) dF) ?_ ?_ ?_ ?_ ?_ ?_ ?_ ?_ (λ_=>trivial) l
  ·exact nh i y (pl 0 _ _ _ O y) (aU.aL.2 ⟨I,rfl⟩) (λx hx=>by
    have:x=v:=by simpa using hx
    rw[this];exact J)
  ·exact nh i z1 (pl 1 _ _ _ O z1) (aU.aL.2 ⟨Y,aU.aL.2 ⟨Y,rfl⟩⟩) (two _ _)
  ·exact nh i l1 (pl 2 _ _ _ O l1) (Bp _ b_ [7,9,11,99]) (j b_ [7,9,11,99])
  ·exact nh i a1 (pl 3 _ _ _ O a1) (aU.aL.2 ⟨by simp only[VR];exact⟨b,0,rfl,rfl⟩,rfl⟩) (λx hx=>by
    have:x= .map (a_ b):=by simpa using hx
    rw[this];rfl)
  ·have hl:(Lib.pow10Tab.map λd=>c_ .u64 d).length=20:=by rw[List.length_map,Lib.pow10Tab_length]
   refine .inr ⟨8,20,Lib.pow10Tab.map λd=>c_ .u64 d,[],u,w,?_,by rw[d_];exact D,by rw[d_];exact hl,Bp _ .u64 _,⟨(λh=>zE),(λ_ h=>zE),(λm h=>by cases h;rfl)⟩,j .u64 _,λh=>zE⟩
   have:=pl 6 _ _ _ O D
   rw[List.size_toArray,hl]at this
   exact this
  ·exact nh i z2 (pl 9 _ _ _ O z2) (aU.aL.2 ⟨Y,aU.aL.2 ⟨Y,rfl⟩⟩) (two _ _)
  ·exact nh i C (pl 10 _ _ _ O C) (aU.aL.2 ⟨Y,aU.aL.2 ⟨Y,rfl⟩⟩) (two _ _)
  ·exact⟨b,0,ms.toList,f,rfl,a2,Z _,λe=>zC⟩
 ·rcases p with p|p
  ·exact⟨p,rfl⟩
  ·exact p.elim
 ·have hl:14<=l:=hl
  show(if l<12 then _ else if l=13 then _ else n_)=n_
  rw[if_neg O,if_neg O]
 ·have h:(match W.heap[k]? with|some (.cells cs _ _)=>a_ cs.toList|_=>n_)=a_ vs:=h
  split at h
  ·rename_i cs el fr hb
   cases h
   exact⟨el,fr,by rw[hb]⟩
  ·cases h
def open_ints{H:Type}{enc:TypeId×Value->H}{P:Program}{W:World}{sp:Nat->Bool}{held:Bool}{ρ:Env}(e:xB ρ W){t i:Nat}{fuel:Nat}{v:Value}{x:DataW H×List MemPlace}(ht:P.underlying t=a_ (.slice i))(hi:P.underlying i=a_ (.int b_))(p:P.cellsOf i=1)
  (h:DataW.trod enc P W 0 sp held fuel t [v]=a_ x):∃(n:Nat)(X:Nat->Int),VR ρ (.ab n 1 (ae X)) v/\∀j,j<n->aN b_ (X j)=true:=by
 rcases open_slice ht h with⟨q,_⟩|⟨a,len,cap,r,F,D,G,s,_,hl,_,f,_,hx⟩
 ·cases q
  refine⟨0,λ_=>0,?_,λj c=>absurd c (lZ _)⟩
  simp[VR]
 ·cases s
  have w:len<=r:=by rw[f];split<;>omega
  rw[p]at hx
  have cells:∀j,j<len->∃b,W.cell? (a.add (j*1+0))=a_ (.int b_ b)/\aN b_ b=true:=λj c=>by
   obtain⟨y,d,g⟩:=hx j O
   obtain⟨_,o,C⟩:=World.cells?_some d
   obtain⟨b,l,_,m⟩:=DataW.trod_int hi g
   refine⟨b,?_,xC m⟩
   rw[<-add_add,C 0 O]
   have:=congrArg (·[0]?) l
   simpa using this
  let X:Nat->Int:=λj=>match W.cell? (a.add (j*1+0))with|some (.int b_ b)=>b|_=>0
  have hX:∀j,j<len->W.cell? (a.add (j*1+0))=a_ (.int b_ (X j))/\aN b_ (X j)=true:=λj c=>by
   obtain⟨b,d,g⟩:=cells j c
   have:X j=b:=by simp only[X];rw[d]
   rw[this];exact⟨d,g⟩
  refine⟨len,X,Gy e O hl λj c=>?_,λj c=>(hX j c).2⟩
  refine⟨[.int b_ (X j)],rfl,λu E=>?_,aU.aL.2 ⟨Y,rfl⟩,λk I=>?_⟩
  ·have:u= .int b_ (X j):=by simpa using E
   rw[this];rfl
  ·have:k=0:=by omega
   subst this
   exact(hX j c).1
end
section
open Go.Deep Go.Proofs Go.ChangeShapes Go.WideShapes
open Go.Proofs.YtoijalagmmgkbaaGreatDoor (Rows.answerContainsRow)
def Xh(n:Nat)(X:Nat->Nat->Int)(h:∀j,j<n->∀k,k<6->aN b_ (X j k)=true):aI 6 n (fm X)=true:=by
 refine List.all_eq_true.2 λj a=>?_
 have a:=List.mem_range.1 a
 show(aN b_ (X j 0)&&(aN b_ (X j 1)&&(aN b_ (X j 2)&&(aN b_ (X j 3)&&(aN b_ (X j 4)&&(aN b_ (X j 5)&&true))))))=true
 rw[h j a 0 O,h j a 1 O,h j a 2 O,h j a 3 O,h j a 4 O,h j a 5 O];rfl
def Xi(n:Nat)(X:Nat->Nat->Int)(h:∀j,j<n->∀k,k<3->aN b_ (X j k)=true):aI 3 n (au X)=true:=by
 refine List.all_eq_true.2 λj a=>?_
 have a:=List.mem_range.1 a
 show(aN b_ (X j 0)&&(aN b_ (X j 1)&&(aN b_ (X j 2)&&true)))=true
 rw[h j a 0 O,h j a 1 O,h j a 2 O];rfl
def Xj(n:Nat)(W:Nat->Int)(h:∀j,j<n->aN b_ (W j)=true):intsIn n (ae W)=true:=by
 unfold intsIn
 rw[kc,Bool.true_and]
 exact List.all_eq_true.2 λj a=>h j (List.mem_range.1 a)
def Xk:(II.body 3).isSome=true:=U
def U4{W:World}{b:Nat}{ρ:Env}{H:AH}{w:World}(h:Rel (OX W b) ρ H w):kU W w:=⟨h.os,h.output,λi hi=>(h.gH i (.inl hi)).2⟩
def F4{H:Type}{enc:TypeId×Value->H}{W:World}{sp:Nat->Bool}{ρ:Env}(n:xB ρ W){i:Nat}{r:_}{v:Value}{fuel:Nat}{x:DataW H×List MemPlace}(E:m_ Tryz.prog W r i 24 v)
  (h:DataW.trod enc Tryz.prog W 0 sp true fuel 24 v.cells.toList=a_ x):∃(e z2 f:Int)(m:Nat)(C:Nat->Nat->Int),VR ρ (.agg [.int b_ e,.ab m 3 (au C),.int b_ z2,.int b_ f]) v/\aN b_ e=true/\aN b_ z2=true/\aN b_ f=true/\aI 3 m (au C)=true:=by
 obtain⟨cs,rfl,o⟩:=okWide_struct Tryz.underlying24 E
 obtain⟨F,k,_,_,_,p,a⟩:=DataW.trod_struct Tryz.underlying24 h
 have hl:cs.toList.length=4:=by rw[Array.length_toList,o];exact c24
 match j:cs.toList,hl,F,p,a with
 |[b,g,c,d],_,[G,I,J,K],_,a=>
  have t:(Value.agg cs).cells.toList=[b,g,c,d]:=j
  have u:DataW.trod enc Tryz.prog W 0 sp true k 3 (([b,g,c,d].drop 0).take (Tryz.prog.cellsOf 3))=a_ G:=a 0 _ A
  have g1:DataW.trod enc Tryz.prog W 0 sp true k 22 (([b,g,c,d].drop 1).take (Tryz.prog.cellsOf 22))=a_ I:=a 1 _ A
  have g2:DataW.trod enc Tryz.prog W 0 sp true k 3 (([b,g,c,d].drop 2).take (Tryz.prog.cellsOf 3))=a_ J:=a 2 _ A
  have g3:DataW.trod enc Tryz.prog W 0 sp true k 3 (([b,g,c,d].drop 3).take (Tryz.prog.cellsOf 3))=a_ K:=a 3 _ A
  rw[show Tryz.prog.cellsOf 3=1 from c3]at u g2 g3
  rw[show Tryz.prog.cellsOf 22=1 from Zb]at g1
  obtain⟨e,w,_,w0⟩:=DataW.trod_int Tryz.underlying3 u
  obtain⟨z2,y,_,L⟩:=DataW.trod_int Tryz.underlying3 g2
  obtain⟨f,D,_,M⟩:=DataW.trod_int Tryz.underlying3 g3
  have N:b= .int b_ e:=by have:=congrArg (λl=>i_ l 0 b) w;exact this
  have P:c= .int b_ z2:=by have:=congrArg (λl=>i_ l 0 c) y;exact this
  have Q:d= .int b_ f:=by have:=congrArg (λl=>i_ l 0 d) D;exact this
  obtain⟨m,C,q,R⟩:=zy n Tryz.underlying22 Tryz.underlying127 Tryz.underlying3 c3 c127 O g1
  clear w y D
  subst N P Q
  have s:cs=[.int b_ e,g,.int b_ z2,.int b_ f].toArray:=by apply e_;exact j
  refine⟨e,z2,f,m,C,?_,xC w0,xC L,xC M,Xi m C R⟩
  simp only[VR]
  exact⟨_,by rw[s],aU.aL.2 ⟨Y,aU.aL.2 ⟨q,aU.aL.2 ⟨Y,aU.aL.2 ⟨Y,rfl⟩⟩⟩⟩⟩
def Ke{H:Type}{enc:TypeId×Value->H}{W:World}{g:Nat}{args:Array Value}{ds:List (DataW H)}{D:List MemPlace}{sp:Nat->Bool}
  (a:∀(j:Nat) t v,Tryz.f3.params[j]? =a_ t->args[j]? =a_ v->m_ Tryz.prog W .any g t v)
  (hA:DataW.TrodAll enc Tryz.prog W 0 sp true Tryz.f3.params.toList args.toList ds D) (hL:laidMetH Tryz.prog Rows.answerContainsRow.laid W):
  Calls Tryz.prog 3 args W λe x=>e= .returned (.bool true)/\kU W x:=by
 rw[Tryz.params3]at hA a
 obtain⟨y,E,F,d0,d1,d2,p0,p1,p2,rfl,_,_,i,l,o⟩:=trodAll_three hA
 obtain⟨b,p,q,ms,f,a1,a2,G⟩:=Kc hL
 have d:=DD W b
 have I:=U3 (OW d hL) (Kd hL) (OU hL) (RW hL) (RX hL) (OV hL) ⟨p,q,ms,f,a1,a2,G⟩
 obtain⟨r,i⟩:=i
 obtain⟨s,l⟩:=l
 obtain⟨u,o⟩:=o
 obtain⟨J,z2,K,m,C,L,w0,M,N,P⟩:=F4 d (a 0 24 y rfl rfl) i
 obtain⟨Q,R,S,rfl⟩:=okWide_slice Tryz.underlying25 (a 1 25 E rfl rfl)
 obtain⟨T,U,Y,rfl⟩:=okWide_slice Tryz.underlying26 (a 2 26 F rfl rfl)
 obtain⟨n,X,r1,hX⟩:=zy d Tryz.underlying25 Tryz.underlying84 Tryz.underlying3 c3 Za O l
 obtain⟨k,V,Z,hV⟩:=open_ints d Tryz.underlying26 Tryz.underlying3 c3 o
 have hv:aU (sk W b) [.agg [.int b_ J,.ab m 3 (au C),.int b_ z2,.int b_ K],.ab n 6 (fm X),.ab k 1 (ae V)] [y,.slice Q R S,.slice T U Y]:=aU.aL.2 ⟨L,aU.aL.2 ⟨r1,aU.aL.2 ⟨Z,rfl⟩⟩⟩
 rcases RO P w0 M N (Xh n X hX) (Xj k V hV) (OX W b) (sk W b) W _ rfl hv I with⟨_,k⟩|⟨v,w',k,_⟩
 ·refine k.mono λe x w=>?_
  cases e with
  |returned v=>
   obtain⟨ρ',_,k1,k2⟩:=w
   simp only[VR]at k2
   exact⟨by rw[k2],U4 k1⟩
  |panicked ch=>exact w.elim
  |outgrown=>exact w.elim
 ·exfalso
  obtain⟨⟨c,nt,rs⟩,hb⟩:=Option.isSome_iff_exists.1 Xk
  obtain⟨fn,_,_,_,_,h⟩:=iw.body 3 c nt rs hb
  rw[h]at k
  cases k
end
end
end Go.Sx
