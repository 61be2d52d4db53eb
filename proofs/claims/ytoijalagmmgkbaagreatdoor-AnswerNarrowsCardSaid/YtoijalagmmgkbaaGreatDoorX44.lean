/- The proof of a statement of the seat, part 44. -/
import Derived.Test.YtoijalagmmgkbaaGreatDoorRows
import Derived.LaidSub
import Derived.Lib.LaidTab
import Derived.Test.YtoijalagmmgkbaaGreatDoorX39
import Derived.Test.YtoijalagmmgkbaaGreatDoorX43
import Derived.Test.YtoijalagmmgkbaaGreatDoorX42
set_option linter.all false
set_option linter.defProp false
set_option maxRecDepth 1000000
namespace Go.Sx
open Go
open Option renaming some->B,none->n_
open List renaming mem_cons_of_mem->z,range->a_,mem_cons_self->b_,append_nil->e_,getElem?_cons_zero->g_,take_succ_cons->h_,getElem?_map->i_,getD->j_,drop_zero->k_,take_zero->l_
open Go.IntKind renaming i64->c_
open Go.Value renaming int->d_,string->m_
open _root_.Array renaming ext'->f_
noncomputable section
section
open Go.Deep Go.Proofs
open Go.Proofs.YtoijalagmmgkbaaGreatDoor (Rows.answerContainsRow)
def si{P:Program}{W:World}{n:String}{d:DataW Unit}:∀{l:List (String×DataW Unit)}{a:List MemPlace},DataW.LaidVars P W l a->(n,d)∈l->
  ∃g t cs fuel p,P.globalNamed n=B g/\(P.globals[g]?).map (·.type)=B t/\W.var? P n=B cs/\DataW.trod (λ_=>()) P W 0 (λ_=>true) false fuel t cs.toList=B (d,p)
 |[],_,_,h=>zE
 |(j,k)::l,_,⟨g,t,cs,fuel,p,q,h1,b,c,f,i,_⟩,h=>by
  rcases List.mem_cons.1 h with e|h
  ·cases e;exact⟨g,t,cs,fuel,p,h1,b,c,f⟩
  ·exact si i h
def sj{P:Program}{W:World}{l:List (String×DataW Unit)}(hL:laidMetH P l W){n:String}{d:DataW Unit}(a:(n,d)∈l)(b:d.handleName?.isNone=true):
  ∃g t cs fuel p,P.globalNamed n=B g/\(P.globals[g]?).map (·.type)=B t/\W.var? P n=B cs/\DataW.trod (λ_=>()) P W 0 (λ_=>true) false fuel t cs.toList=B (d,p):=by
 obtain⟨⟨c,h,_⟩,_⟩:=laidMetH_iff.1 hL
 exact si h (List.mem_filter.2 ⟨a,b⟩)
def nY{P:Program}{W:World}{n:String}{g:Nat}{cs:Array Value}(a:P.globalNamed n=B g)(h:W.var? P n=B cs):∃el fr,W.heap[g]? =B (.cells cs el fr):=by
 simp only[World.var?,a,Option.bind_some]at h
 split at h
 ·rename_i c el fr b
  cases h
  exact⟨el,fr,b⟩
 ·cases h
def OT{cs:Array Value}{v:Value}(h:cs.toList=[v]):cs= #[v]:=by
 apply f_;exact h
def Xb:PP.globalNamed "latecomer/answer.zero" =B 0:=U
def Ym:PP.globalNamed "latecomer/query.operators" =B 1:=U
def Xc:PP.globalNamed "latecomer/answer.aggregates" =B 2:=U
def Yn:PP.globalNamed "latecomer/sketch.limits" =B 3:=U
def Y7:PP.globalNamed "latecomer/estimate.zero" =B 4:=U
def Y8:PP.globalNamed "latecomer/estimate.one" =B 5:=U
def Yo:PP.globalNamed "internal/strconv.uint64pow10" =B 8:=U
def Yp:PP.globals.toList.map (·.type)=[30,149,179,202,30,30,211,211,354,3,356,359,362,363]:=U
def F3(g:Nat)(t:TypeId)(h:([30,149,179,202,30,30,211,211,354,3,356,359,362,363]:List TypeId)[g]? =B t):(PP.globals[g]?).map (·.type)=B t:=by
 rw[<-h,<-Yp,i_,Array.getElem?_toList]
def c3:PP.cellsOf 3=1:=U
def c9:PP.cellsOf 9=1:=U
def c146:PP.cellsOf 146=1:=U
def Yq:PP.cellsOf 100=1:=U
def Yr:PP.cellsOf 178=1:=U
def Ys:PP.cellsOf 261=1:=U
def c148:PP.cellsOf 148=2:=U
def Y9:PP.cellsOf 30=2:=U
def Yt:PP.cellsOf 202=4:=U
def Za:PP.cellsOf 84=6:=U
def c127:PP.cellsOf 127=3:=U
def c24:PP.cellsOf 24=4:=U
def Zb:PP.cellsOf 22=1:=U
def Yu:PP.cellsOf 354=20:=U
def di(c:UInt8):UInt8×List UInt8:=(108,[97,116,101,99,111,109,101,114,47,113,117,101,114,121,46,111,112,101,114,97,116,111,114,115,36,c])
def ig(i:Nat):UInt8×List UInt8:=(108,[97,116,101,99,111,109,101,114,47,97,110,115,119,101,114,46,97,103,103,114,101,103,97,116,101,115,36,match i with|0=>49|1=>50|2=>51|3=>52|_=>53])
def uv(i:Nat):FuncId:=match i with|0=>335|1=>337|2=>339|3=>340|_=>341
def Xd:((a_ PP.funcs.size).filter λf=>(PP.funcs[f]?).any (·.name.toUTF8.data.toList==(di 49).1::(di 49).2))=[331]:=U
def Xe:((a_ PP.funcs.size).filter λf=>(PP.funcs[f]?).any (·.name.toUTF8.data.toList==(di 50).1::(di 50).2))=[332]:=U
def Xf:((a_ PP.funcs.size).filter λf=>(PP.funcs[f]?).any (·.name.toUTF8.data.toList==(di 51).1::(di 51).2))=[333]:=U
def Xg:((a_ PP.funcs.size).filter λf=>(PP.funcs[f]?).any (·.name.toUTF8.data.toList==(di 52).1::(di 52).2))=[334]:=U
def RR:((a_ PP.funcs.size).filter λf=>(PP.funcs[f]?).any (·.name.toUTF8.data.toList==(ig 0).1::(ig 0).2))=[uv 0]:=U
def RS:((a_ PP.funcs.size).filter λf=>(PP.funcs[f]?).any (·.name.toUTF8.data.toList==(ig 1).1::(ig 1).2))=[uv 1]:=U
def RT:((a_ PP.funcs.size).filter λf=>(PP.funcs[f]?).any (·.name.toUTF8.data.toList==(ig 2).1::(ig 2).2))=[uv 2]:=U
def RU:((a_ PP.funcs.size).filter λf=>(PP.funcs[f]?).any (·.name.toUTF8.data.toList==(ig 3).1::(ig 3).2))=[uv 3]:=U
def RV:((a_ PP.funcs.size).filter λf=>(PP.funcs[f]?).any (·.name.toUTF8.data.toList==(ig 4).1::(ig 4).2))=[uv 4]:=U
def U2(i:Nat)(hi:i<5):((a_ PP.funcs.size).filter λf=>(PP.funcs[f]?).any (·.name.toUTF8.data.toList==(ig i).1::(ig i).2))=[uv i]:=by
 match i,hi with
 |0,_=>exact RR
 |1,_=>exact RS
 |2,_=>exact RT
 |3,_=>exact RU
 |4,_=>exact RV
 |i+5,h=>exact absurd h O
end
section
open Go.Deep Go.Proofs
open Go.Proofs.YtoijalagmmgkbaaGreatDoor (Rows.answerContainsRow)
def Kc{W:World}(hL:laidMetH PP Rows.answerContainsRow.laid W):∃b el fr ms a,W.heap[2]? =B (.cells #[.map (B b)] el fr)/\W.heap[b]? =B (.map ms a)/\∀ρ,ke ρ lS ms.toList:=by
 obtain⟨g,t,cs,fuel,p,j,ht,l,m⟩:=hL.funcs (n := "latecomer/answer.aggregates") (d:=_) (by
  show _∈[_,_,_,_,_,_,_,_,_,_,_,_,_]
  iterate 11 apply z
  exact b_)
 obtain rfl:=Option.some.inj (Xc.symm.trans j)
 obtain rfl:=Option.some.inj ((F3 2 _ rfl).symm.trans ht)
 obtain⟨b,ms,a,c,o,q,r⟩:=Kb (N:=ig) (F:=uv) Tryz.underlying179 Tryz.underlying3 Tryz.underlying178 rfl Yr Yq Tryz.underlying100 U2 (h:=m)
 obtain⟨el,fr,k⟩:=nY j l
 rw[OT c]at k
 refine⟨b,el,fr,ms,a,k,o,λρ=>?_⟩
 obtain⟨e,k1,k2,s⟩:=OS (V:=λi=> .agg #[.func (.func (uv i)) #[] #[]]) q r
 have fn:∀f,VR ρ (.agg [.fn f [] []]) (.agg #[.func (.func f) #[] #[]]):=λf=>by
  simp only[VR]
  exact⟨[.func (.func f) #[] #[]],rfl,aU.aL.2 ⟨by simp only[VR];exact⟨[],[],rfl,rfl,rfl⟩,rfl⟩⟩
 refine⟨e,?_,?_,(λh=>zE),s⟩
 ·rw[k1]
  have i:∀n,VR ρ (.int c_ n) (.int c_ n):=λn=>zB
  exact aU.aL.2 ⟨i 1,aU.aL.2 ⟨i 2,aU.aL.2 ⟨i 3,aU.aL.2 ⟨i 4,aU.aL.2 ⟨i 5,rfl⟩⟩⟩⟩⟩
 ·rw[k2]
  exact aU.aL.2 ⟨fn 335,aU.aL.2 ⟨fn 337,aU.aL.2 ⟨fn 339,aU.aL.2 ⟨fn 340,aU.aL.2 ⟨fn 341,rfl⟩⟩⟩⟩⟩
def xE{W:World}{cs:Array Value}{fuel:Nat}{p:List MemPlace}{a b:List UInt8}(l:DataW.trod (λ_=>()) PP W 0 (λ_=>true) false fuel 30 cs.toList=B (.agg [.lit (.string a),.lit (.string b)],p)):cs= #[.string ⟨a.toArray⟩,.string ⟨b.toArray⟩]:=by
 obtain⟨m,n,_,hx,hl,h,d⟩:=DataW.trod_struct Tryz.underlying30 l
 have hl:cs.toList.length=2:=hl.trans Y9
 simp only[Prod.mk.injEq]at hx
 obtain⟨hx,_⟩:=hx
 match m,h,hx with
 |[f,g],_,hx=>
  match c:cs.toList,hl with
  |[j,k],_=>
   have i:DataW.trod (λ_=>()) Tryz.prog W 0 (λ_=>true) false n 9 (([j,k].drop 0).take (Tryz.prog.cellsOf 9))=B f:=by have:=d 0 _ A;rw[c]at this;exact this
   have g1:DataW.trod (λ_=>()) Tryz.prog W 0 (λ_=>true) false n 9 (([j,k].drop 1).take (Tryz.prog.cellsOf 9))=B g:=by have:=d 1 _ A;rw[c]at this;exact this
   rw[show Tryz.prog.cellsOf 9=1 from c9]at i g1
   simp only[k_,h_,l_,g_]at i
   simp only[List.drop_succ_cons,k_,h_,l_,List.getElem?_cons_succ,g_]at g1
   obtain⟨f,p0⟩:=f
   obtain⟨g,r⟩:=g
   have e:([.lit (.string a),.lit (.string b)]:List (DataW Unit))=[f,g]:=by injection hx
   simp only[List.cons.injEq,and_true]at e
   obtain⟨rfl,rfl⟩:=e
   have o:=Vg Tryz.underlying9 i
   have q:=Vg Tryz.underlying9 g1
   subst o q
   apply f_
   exact c
def Kd{W:World}(hL:laidMetH PP Rows.answerContainsRow.laid W):∃el fr,W.heap[0]? =B (.cells #[.string ⟨[48].toArray⟩,.string ⟨[49].toArray⟩] el fr):=by
 obtain⟨g,t,cs,fuel,p,a,ht,c,e⟩:=sj hL (n := "latecomer/answer.zero") (d:=_) (by
  show _∈[_,_,_,_,_,_,_,_,_,_,_,_,_]
  iterate 10 apply z
  exact b_) A
 obtain rfl:=Option.some.inj (Xb.symm.trans a)
 obtain rfl:=Option.some.inj ((F3 0 _ rfl).symm.trans ht)
 obtain⟨el,fr,b⟩:=nY a c
 rw[xE e]at b
 exact⟨el,fr,b⟩
def RW{W:World}(hL:laidMetH PP Rows.answerContainsRow.laid W):∃el fr,W.heap[4]? =B (.cells #[.string ⟨[48].toArray⟩,.string ⟨[49].toArray⟩] el fr):=by
 obtain⟨g,t,cs,fuel,p,a,ht,c,e⟩:=sj hL (n := "latecomer/estimate.zero") (d:=_) (by
  show _∈[_,_,_,_,_,_,_,_,_,_,_,_,_]
  iterate 6 apply z
  exact b_) A
 obtain rfl:=Option.some.inj (Y7.symm.trans a)
 obtain rfl:=Option.some.inj ((F3 4 _ rfl).symm.trans ht)
 obtain⟨el,fr,b⟩:=nY a c
 rw[xE e]at b
 exact⟨el,fr,b⟩
def RX{W:World}(hL:laidMetH PP Rows.answerContainsRow.laid W):∃el fr,W.heap[5]? =B (.cells #[.string ⟨[49].toArray⟩,.string ⟨[49].toArray⟩] el fr):=by
 obtain⟨g,t,cs,fuel,p,a,ht,c,e⟩:=sj hL (n := "latecomer/estimate.one") (d:=_) (by
  show _∈[_,_,_,_,_,_,_,_,_,_,_,_,_]
  iterate 7 apply z
  exact b_) A
 obtain rfl:=Option.some.inj (Y8.symm.trans a)
 obtain rfl:=Option.some.inj ((F3 5 _ rfl).symm.trans ht)
 obtain⟨el,fr,b⟩:=nY a c
 rw[xE e]at b
 exact⟨el,fr,b⟩
def OU{W:World}(hL:laidMetH PP Rows.answerContainsRow.laid W):∃el fr,W.heap[3]? =B (.cells (([7,9,11,99]).map λa=>d_ c_ a).toArray el fr):=by
 obtain⟨g,t,cs,fuel,p,b,ht,c,e⟩:=sj hL (n := "latecomer/sketch.limits") (d:=_) (by
  show _∈[_,_,_,_,_,_,_,_,_,_,_,_,_]
  iterate 9 apply z
  exact b_) A
 obtain rfl:=Option.some.inj (Yn.symm.trans b)
 obtain rfl:=Option.some.inj ((F3 3 _ rfl).symm.trans ht)
 obtain⟨el,fr,f⟩:=nY b c
 have:=Lib.cells_of_tab (k:=.i64) (zs:=[7,9,11,99]) Tryz.underlying202 Tryz.underlying3 c3 Yt e
 refine⟨el,fr,?_⟩
 rw[f]
 congr 2
 apply f_
 rw[this]
def OV{W:World}(hL:laidMetH PP Rows.answerContainsRow.laid W):∃el fr,W.heap[8]? =B (.cells ((Lib.pow10Tab).map λa=>d_ .u64 a).toArray el fr):=by
 obtain⟨g,t,cs,fuel,p,b,ht,c,e⟩:=sj hL (n := "internal/strconv.uint64pow10") (d:=_) (by
  show _∈[_,_,_,_,_,_,_,_,_,_,_,_,_]
  iterate 2 apply z
  exact b_) A
 obtain rfl:=Option.some.inj (Yo.symm.trans b)
 obtain rfl:=Option.some.inj ((F3 8 _ rfl).symm.trans ht)
 obtain⟨el,fr,f⟩:=nY b c
 have:=Lib.cells_of_tab (k:=.u64) (zs:=Lib.pow10Tab) Tryz.underlying354 Tryz.underlying261 Ys Yu e
 refine⟨el,fr,?_⟩
 rw[f]
 congr 2
 apply f_
 rw[this]
def OW{ρ:Env}{W:World}(o:xB ρ W)(hL:laidMetH PP Rows.answerContainsRow.laid W):∃v el fr,W.heap[1]? =B (.cells #[v] el fr)/\VR ρ (.az 5 2 aA) v/\v.oneCell'=true:=by
 obtain⟨g,t,cs,fuel,p,C,ht,I,J⟩:=hL.funcs (n := "latecomer/query.operators") (d:=_) (by
  show _∈[_,_,_,_,_,_,_,_,_,_,_,_,_]
  iterate 8 apply z
  exact b_)
 obtain rfl:=Option.some.inj (Ym.symm.trans C)
 obtain rfl:=Option.some.inj ((F3 1 _ rfl).symm.trans ht)
 obtain⟨el,fr,E⟩:=nY C I
 rcases open_slice Tryz.underlying149 J with⟨_,hx⟩|⟨a,len,cap,m,n,D,T,q,_,hl,_,hm,hx,r⟩
 ·exact absurd hx (λe=>zG)
 rw[OT q]at E
 refine⟨_,el,fr,E,?_,rfl⟩
 simp only[Prod.mk.injEq]at hx
 have w:DataW.slice [.agg [.lit (.string []),.nil],.agg [.lit (.string [61]),.held ((di 49).1::(di 49).2)],.agg [.lit (.string [33,61]),.held ((di 50).1::(di 50).2)],.agg [.lit (.string [60]),.held ((di 51).1::(di 51).2)],.agg [.lit (.string [62,61]),.held ((di 52).1::(di 52).2)]] []=DataW.slice ((a_ len).map D) ((a_ (m-len)).map λj=>D (len+j)):=hx.1
 have i:[.agg [.lit (.string []),.nil],.agg [.lit (.string [61]),.held ((di 49).1::(di 49).2)],.agg [.lit (.string [33,61]),.held ((di 50).1::(di 50).2)],.agg [.lit (.string [60]),.held ((di 51).1::(di 51).2)],.agg [.lit (.string [62,61]),.held ((di 52).1::(di 52).2)]]=(a_ len).map D:=by injection w
 have K:len=5:=by have:=congrArg List.length i;simpa using this.symm
 subst K
 have b:∀j d,[.agg [.lit (.string []),.nil],.agg [.lit (.string [61]),.held ((di 49).1::(di 49).2)],.agg [.lit (.string [33,61]),.held ((di 50).1::(di 50).2)],.agg [.lit (.string [60]),.held ((di 51).1::(di 51).2)],.agg [.lit (.string [62,61]),.held ((di 52).1::(di 52).2)]][j]? =B d->j<5->D j=d:=λj d h x=>by
  rw[i,i_,List.getElem?_range x]at h
  exact Option.some.inj h
 have L:5<=m:=by rw[hm];split<;>omega
 have F:PP.cellsOf 148=2:=c148
 have str:∀s n c p,DataW.trod (funcToken PP) PP W 0 (λ_=>true) true n 9 [c]=B (.lit (.string s),p)->VR ρ.bare (.str s) c/\c.oneCell'=true:=λs n c p h=>Yl (Vg Tryz.underlying9 h)
 refine Gy o O hl λj x=>?_
 obtain⟨l,G,M⟩:=r j O
 rw[F]at G
 obtain⟨_,H,N⟩:=World.cells?_some G
 have cells:∀k,k<2->W.cell? (a.add (j*2+k))=l[k]? :=λk P=>by
  have:=N k P
  rw[<-add_add];exact this
 have f:∀y d1 a0 a1,D j= .agg [y,d1]->aA j=[a0,a1]->(∀n c p,DataW.trod (funcToken PP) PP W 0 (λ_=>true) true n 9 [c]=B (y,p)->VR ρ.bare a0 c/\c.oneCell'=true)->(∀n c p,DataW.trod (funcToken PP) PP W 0 (λ_=>true) true n 146 [c]=B (d1,p)->VR ρ.bare a1 c/\c.oneCell'=true)->
   ∃us:List Value,us.length=2/\(∀u∈us,u.oneCell'=true)/\aU ρ.bare (aA j) us/\∀k,k<2->W.cell? (a.add (j*2+k))=us[k]? :=λy d1 a0 a1 Q R S k1=>by
  obtain⟨us,rfl,g1,g2,g3⟩:=Sm (ρ:=ρ.bare) (a0:=a0) (a1:=a1) Tryz.underlying148 rfl rfl c9 c146 F M Q S k1
  exact⟨l,g1,g2,by rw[R];exact g3,cells⟩
 match j,x with
 |0,_=>exact f _ _ _ _ (b 0 _ A O) A (str []) λn c p h=>by rw[U0 Tryz.underlying146 h];exact⟨zB,rfl⟩
 |1,_=>exact f _ _ _ _ (b 1 _ A O) A (str [61]) λn c p h=>HC (func_of_trod Tryz.underlying146 Xd h)
 |2,_=>exact f _ _ _ _ (b 2 _ A O) A (str [33,61]) λn c p h=>HC (func_of_trod Tryz.underlying146 Xe h)
 |3,_=>exact f _ _ _ _ (b 3 _ A O) A (str [60]) λn c p h=>HC (func_of_trod Tryz.underlying146 Xf h)
 |4,_=>exact f _ _ _ _ (b 4 _ A O) A (str [62,61]) λn c p h=>HC (func_of_trod Tryz.underlying146 Xg h)
 |j+5,h=>exact absurd h O
end
section
open Go.Deep Go.ChangeShapes Go.WideShapes
def NC(W:World)(b:Nat):Env where
 pl l:=if l<12 then B (ux l,match W.heap[ux l]? with|some (.cells cs _ _)=>cs.size|_=>0)else if l=13 then B (b,0)else n_
 fz k:=match W.heap[k]? with|some (.cells cs _ _)=>B cs.toList|_=>n_
def DD(W:World)(b:Nat):xB (NC W b) W:=λk cs el fr h=>by
 show(match W.heap[k]? with|some (.cells cs _ _)=>B cs.toList|_=>n_)=_
 rw[h]
def OX(W:World)(b:Nat):zS where
 w0:=W
 Z k:=k<W.heap.size
 G:=12
 X _:=False
 E _:=False
 DI:=NC W b
def OY(l:Nat):(Hm.get l).rw=false:=sh (P:=λ_ b=>b.rw=false) A A A A A A A A (λ_=>rfl) l
def nh{ρ:Env}{W:World}(b:xB ρ W){l g:Nat}{cs:Array Value}{el:TypeId}{fr:Nat×Nat}{a:List AV}(h:W.heap[g]? =B (.cells cs el fr))(c:ρ l=B (g,cs.size))(d:aU ρ a cs.toList)(f:∀v∈cs.toList,v.oneCell'=true):aJ ρ W (ρ l) a .ro:=by
 refine .inr ⟨g,cs.size,cs.toList,[],el,fr,c,?_,zA,d,⟨(λe=>zG),(λ_ e=>zG),(λ_ e=>zG)⟩,f,λ_=>?_⟩
 ·rw[e_];exact h
 ·rw[e_];exact b g cs el fr h
def Bp(ρ:Env)(k:IntKind):∀l:List Int,aU ρ (l.map λa=>AV.int k a) (l.map λa=>d_ k a)
 |[]=>rfl
 |_::l=>aU.aL.2 ⟨zB,Bp ρ k l⟩
def U3{W:World}{b:Nat}(ops:∃v el fr,W.heap[1]? =B (.cells #[v] el fr)/\VR (NC W b) (.az 5 2 aA) v/\v.oneCell'=true)(zero:∃el fr,W.heap[0]? =B (.cells #[.string ⟨[48].toArray⟩,.string ⟨[49].toArray⟩] el fr))
  (q:∃el fr,W.heap[3]? =B (.cells (([7,9,11,99]:List Int).map λd=>d_ c_ d).toArray el fr)) (E:∃el fr,W.heap[4]? =B (.cells #[.string ⟨[48].toArray⟩,.string ⟨[49].toArray⟩] el fr)) (F:∃el fr,W.heap[5]? =B (.cells #[.string ⟨[49].toArray⟩,.string ⟨[49].toArray⟩] el fr))
  (s:∃el fr,W.heap[8]? =B (.cells (Lib.pow10Tab.map λd=>d_ .u64 d).toArray el fr)) (o:∃el fr ms f,W.heap[2]? =B (.cells #[.map (B b)] el fr)/\W.heap[b]? =B (.map ms f)/\∀ρ,ke ρ lS ms.toList):
  Rel (OX W b) (NC W b) Hm W:=by
 have i:=DD W b
 have pl:∀l cs el fr,l<12->W.heap[ux l]? =B (.cells cs el fr)->NC W b l=B (ux l,cs.size):=λl cs el fr t h=>by
  show(if l<12 then B (ux l,match W.heap[ux l]? with|some (.cells cs _ _)=>cs.size|_=>0)else _)=_
  rw[if_pos t,h]
 obtain⟨v,G,H,y,I,J⟩:=ops
 obtain⟨K,L,z1⟩:=zero
 obtain⟨M,Q,l1⟩:=q
 obtain⟨R,S,z2⟩:=E
 obtain⟨T,U,C⟩:=F
 obtain⟨u,w,D⟩:=s
 obtain⟨V,X,ms,f,a1,a2,Y⟩:=o
 have n:∀l,14<=l->Hm.get l= .dead:=λl hl=>by
  rw[FZ,if_neg O,if_neg O,if_neg O,if_neg O,if_neg O,if_neg O,if_neg O,if_neg O]
 have two:∀(a c:List UInt8),∀x∈(#[m_ ⟨a.toArray⟩,m_ ⟨c.toArray⟩]:Array Value).toList,x.oneCell'=true:=λa c x hx=>by
  simp only[List.mem_cons,List.not_mem_nil,or_false]at hx
  rcases hx with rfl|rfl<;>rfl
 have j:∀(k:IntKind)(l:List Int),∀x∈(l.map λd=>d_ k d),x.oneCell'=true:=λk l x hx=>by
  obtain⟨d,_,rfl⟩:=List.mem_map.1 hx
  rfl
 refine {dF:=λl=>?_,sep:=λl l' r N N' _ h=>(by rw[OY]at h;cases h),gL:=λl r N h=>(by rw[OY]at h;cases h),gH:=λk p=>?_,size:=dw _,os:=rfl,output:=rfl,tape:=rfl,top:=λl hl=>?_,fp:=λg t=>⟨_,if_pos t⟩,hid:=λ_ _ _ _ _ h=>h,env:=λ_ h=>h.elim,low:=n,qY:=λk vs h=>?_,pV:=λl r N h=>(by rw[OY]at h;cases h),ZN:=λ_ h=>h.elim,qZ:=λ_ _ h=>h}
 ·refine sh (P:=λl dF=>bp (NC W b) W (NC W b l) dF) ?_ ?_ ?_ ?_ ?_ ?_ ?_ ?_ (λ_=>trivial) l
  ·exact nh i y (pl 0 _ _ _ O y) (aU.aL.2 ⟨I,rfl⟩) (λx hx=>by
    have:x=v:=by simpa using hx
    rw[this];exact J)
  ·exact nh i z1 (pl 1 _ _ _ O z1) (aU.aL.2 ⟨zB,aU.aL.2 ⟨zB,rfl⟩⟩) (two _ _)
  ·exact nh i l1 (pl 2 _ _ _ O l1) (Bp _ c_ [7,9,11,99]) (j c_ [7,9,11,99])
  ·exact nh i a1 (pl 3 _ _ _ O a1) (aU.aL.2 ⟨by simp only[VR];exact⟨b,0,rfl,rfl⟩,rfl⟩) (λx hx=>by
    have:x= .map (B b):=by simpa using hx
    rw[this];rfl)
  ·have hl:(Lib.pow10Tab.map λd=>d_ .u64 d).length=20:=by rw[List.length_map,Lib.pow10Tab_length]
   refine .inr ⟨8,20,Lib.pow10Tab.map λd=>d_ .u64 d,[],u,w,?_,by rw[e_];exact D,by rw[e_];exact hl,Bp _ .u64 _,⟨(λh=>zE),(λ_ h=>zE),(λm h=>by cases h;rfl)⟩,j .u64 _,λh=>zE⟩
   have:=pl 6 _ _ _ O D
   rw[List.size_toArray,hl]at this
   exact this
  ·exact nh i z2 (pl 9 _ _ _ O z2) (aU.aL.2 ⟨zB,aU.aL.2 ⟨zB,rfl⟩⟩) (two _ _)
  ·exact nh i C (pl 10 _ _ _ O C) (aU.aL.2 ⟨zB,aU.aL.2 ⟨zB,rfl⟩⟩) (two _ _)
  ·exact⟨b,0,ms.toList,f,rfl,a2,Y _,λe=>zG⟩
 ·rcases p with p|p
  ·exact⟨p,rfl⟩
  ·exact p.elim
 ·have hl:14<=l:=hl
  show(if l<12 then _ else if l=13 then _ else n_)=n_
  rw[if_neg O,if_neg O]
 ·have h:(match W.heap[k]? with|some (.cells cs _ _)=>B cs.toList|_=>n_)=B vs:=h
  split at h
  ·rename_i cs el fr Z
   cases h
   exact⟨el,fr,by rw[Z]⟩
  ·cases h
end
section
open Go.Deep Go.Proofs Go.ChangeShapes Go.WideShapes
open Go.Proofs.YtoijalagmmgkbaaGreatDoor (Rows.answerContainsRow)
def Xh(n:Nat)(X:Nat->Nat->Int)(h:∀j,j<n->∀k,k<6->aN c_ (X j k)=true):aI 6 n (fm X)=true:=by
 refine List.all_eq_true.2 λj a=>?_
 have a:=List.mem_range.1 a
 show(aN c_ (X j 0)&&(aN c_ (X j 1)&&(aN c_ (X j 2)&&(aN c_ (X j 3)&&(aN c_ (X j 4)&&(aN c_ (X j 5)&&true))))))=true
 rw[h j a 0 O,h j a 1 O,h j a 2 O,h j a 3 O,h j a 4 O,h j a 5 O];rfl
def Xi(n:Nat)(X:Nat->Nat->Int)(h:∀j,j<n->∀k,k<3->aN c_ (X j k)=true):aI 3 n (au X)=true:=by
 refine List.all_eq_true.2 λj a=>?_
 have a:=List.mem_range.1 a
 show(aN c_ (X j 0)&&(aN c_ (X j 1)&&(aN c_ (X j 2)&&true)))=true
 rw[h j a 0 O,h j a 1 O,h j a 2 O];rfl
def U4{W:World}{b:Nat}{ρ:Env}{H:AH}{w:World}(h:Rel (OX W b) ρ H w):kU W w:=⟨h.os,h.output,λi hi=>(h.gH i (.inl hi)).2⟩
def F4{H:Type}{enc:TypeId×Value->H}{W:World}{sp:Nat->Bool}{ρ:Env}(n:xB ρ W){i:Nat}{r:_}{v:Value}{fuel:Nat}{x:DataW H×List MemPlace}(E:Value.okWide Tryz.prog W r i 24 v)
  (h:DataW.trod enc Tryz.prog W 0 sp true fuel 24 v.cells.toList=B x):∃(e z2 f:Int)(m:Nat)(C:Nat->Nat->Int),VR ρ (.agg [.int c_ e,.az m 3 (au C),.int c_ z2,.int c_ f]) v/\aN c_ e=true/\aN c_ z2=true/\aN c_ f=true/\aI 3 m (au C)=true:=by
 obtain⟨cs,rfl,o⟩:=okWide_struct Tryz.underlying24 E
 obtain⟨F,k,_,_,_,p,a⟩:=DataW.trod_struct Tryz.underlying24 h
 have hl:cs.toList.length=4:=by rw[Array.length_toList,o];exact c24
 match j:cs.toList,hl,F,p,a with
 |[b,g,c,d],_,[G,I,J,K],_,a=>
  have t:(Value.agg cs).cells.toList=[b,g,c,d]:=j
  have u:DataW.trod enc Tryz.prog W 0 sp true k 3 (([b,g,c,d].drop 0).take (Tryz.prog.cellsOf 3))=B G:=a 0 _ A
  have g1:DataW.trod enc Tryz.prog W 0 sp true k 22 (([b,g,c,d].drop 1).take (Tryz.prog.cellsOf 22))=B I:=a 1 _ A
  have g2:DataW.trod enc Tryz.prog W 0 sp true k 3 (([b,g,c,d].drop 2).take (Tryz.prog.cellsOf 3))=B J:=a 2 _ A
  have g3:DataW.trod enc Tryz.prog W 0 sp true k 3 (([b,g,c,d].drop 3).take (Tryz.prog.cellsOf 3))=B K:=a 3 _ A
  rw[show Tryz.prog.cellsOf 3=1 from c3]at u g2 g3
  rw[show Tryz.prog.cellsOf 22=1 from Zb]at g1
  obtain⟨e,w,_,w0⟩:=DataW.trod_int Tryz.underlying3 u
  obtain⟨z2,y,_,L⟩:=DataW.trod_int Tryz.underlying3 g2
  obtain⟨f,D,_,M⟩:=DataW.trod_int Tryz.underlying3 g3
  have N:b= .int c_ e:=by have:=congrArg (λl=>j_ l 0 b) w;exact this
  have P:c= .int c_ z2:=by have:=congrArg (λl=>j_ l 0 c) y;exact this
  have Q:d= .int c_ f:=by have:=congrArg (λl=>j_ l 0 d) D;exact this
  obtain⟨m,C,q,R⟩:=zy n Tryz.underlying22 Tryz.underlying127 Tryz.underlying3 c3 c127 O g1
  clear w y D
  subst N P Q
  have s:cs=[.int c_ e,g,.int c_ z2,.int c_ f].toArray:=by apply f_;exact j
  refine⟨e,z2,f,m,C,?_,xC w0,xC L,xC M,Xi m C R⟩
  simp only[VR]
  exact⟨_,by rw[s],aU.aL.2 ⟨zB,aU.aL.2 ⟨q,aU.aL.2 ⟨zB,aU.aL.2 ⟨zB,rfl⟩⟩⟩⟩⟩
end
end
end Go.Sx
