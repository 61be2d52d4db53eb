/- The proof of a statement of the seat, part 28. -/
import Derived.Test.YtoijalagmmgkbaaGreatDoorX26
import Derived.Test.YtoijalagmmgkbaaGreatDoorX27
import Derived.Test.YtoijalagmmgkbaaGreatDoorX24
import Derived.Test.YtoijalagmmgkbaaGreatDoorX15
import Derived.Test.YtoijalagmmgkbaaGreatDoorX14
set_option linter.all false
set_option linter.defProp false
section
set_option maxRecDepth 1000000
namespace Go.Sx
open Go Go.Proofs Go.Sort
theorem AL{α}[Inhabited α]{enc}{d:Array α}{vs}(hl:vs.length=d.size)(rest):putCells enc 0 d (vs++rest).toArray=(d.toList.map enc++rest).toArray:=by
 have a:(d.toList.map enc).length=d.size:=zA
 apply Array.ext_getElem?
 intro k
 simp only[putCells,Array.getElem?_mapIdx,List.getElem?_toArray]
 grind
theorem mT{ρ f}(a:∀i,(f i).length=1):∀{n vs},aU ρ (rowsOf n f) vs->vs.length=n/\∀i,i<n->∃v,vs[i]? =some v/\aU ρ (f i) [v]
 |0,vs,h=>by
  have h:vs=[]:=h
  grind
 |n+1,vs,h=>by
  rw[show rowsOf (n+1) f=rowsOf n f++f n by simp[rowsOf,List.range_succ]]at h
  obtain⟨us,ws,rfl,k1,k2⟩:=oF h
  obtain⟨c,d⟩:=mT a k1
  have b:ws.length=1:=by rw[<-k2.length_eq,a]
  obtain⟨v,rfl⟩:=List.length_eq_one_iff.1 b
  grind
theorem oI{ρ:Env}{f:Nat->List AV}:∀{n:Nat}{vs:List Value},vs.length=n->(∀i,i<n->∃v,vs[i]? =some v/\aU ρ (f i) [v])->aU ρ (rowsOf n f) vs
 |0,vs,h,_=>List.eq_nil_of_length_eq_zero h
 |n+1,vs,h,k=>by
  rw[show rowsOf (n+1) f=rowsOf n f++f n by simp[rowsOf,List.range_succ]]
  obtain⟨v,g1,g2⟩:=k n O
  have e:vs=vs.take n++[v]:=by
   rw[<-List.take_append_drop n vs]
   have:vs.drop n=[v]:=by
    apply List.ext_getElem?
    intro i
    rw[List.getElem?_drop]
    cases i with
    |zero=>exact g1
    |succ i=>grind
   rw[this]
   congr 1
   rw[List.take_append_of_le_length zJ,List.take_take,Nat.min_self]
  rw[e]
  refine(oI zJ λi hi=>?_).append g2
  obtain⟨u,q1,a⟩:=k i O
  grind
theorem Rel.GZ{c:zS}{ρ:Env}{H:AH}{w:World}{l n T b N:Nat}{R:Nat->List AV}(D:Rel c ρ H w)(hl:H.get l= .rows n 1 R (.ty T))(E:ρ l=some (b,N))(F:∀i,(R i).length=1):
  b<w.heap.size/\∃vs:List Value,vs.length=n/\(∀i,i<n->∃v,vs[i]? =some v/\aU ρ (R i) [v])/\(∀v∈vs,v.oneCell'=true)/\
   ∀{α:Type} [Inhabited α] (enc:α->Value) (d:Array α),d.toList.map enc=vs->Holds enc w b 0 d/\∀(h:Array α)(o:Nat->List AV)(m:Nat)(os:Array Obj),h.size=n->(∀a,(enc a).oneCell'=true)->(∀i,(o i).length=1)->
    (∀i,i<n->∃v,(h.toList.map enc)[i]? =some v/\aU ρ (o i) [v])->Rel c ρ (H.set l (.rows n 1 o (.ty T))) (sortWorld enc w b 0 m h os):=by
 have q:bp ρ w (ρ l) (.rows n 1 R (.ty T)):=by rw[<-hl];exact D.dF l
 have s:(H.get l).rw=true:=by rw[hl];rfl
 rw[E]at q
 rcases q.2 with⟨_,e⟩|⟨L,M,vs,rest,el,fr,g1,g2,g3,g4,g5,g6,g7⟩
 ·cases e
 cases g1
 have t:b<w.heap.size:=(Array.getElem?_eq_some_iff.1 g2).1
 obtain⟨f,G⟩:=mT F g4
 refine⟨t,vs,f,G,g6,λ{α} _ enc d I=>?_⟩
 have J:d.size=n:=by rw[<-f,<-I];simp
 refine⟨λj P=>⟨?_,?_⟩,λh o m os u K y C=>?_⟩
 ·show(match w.heap[b]? with|some (.cells c _ _)=>_|_=>_)=_
  grind
 ·show(match w.heap[b]? with|some (.cells _ _ (lo,hi))=>_|_=>_)=_
  rw[g2]
  obtain⟨lo,hi⟩:=fr
  have Q:=g5.w A j Y
  grind
 ·have ht:Rel c ρ (H.set l (.rows n 1 o (.ty T))) (putRow enc (Sort.ahead w m) b 0 h):=by
   refine D.fC _ s E (λk q=>?_) ?_ A A A ?_
   ·show(w.heap.modify b _)[k]? =_
    grind
   ·simp
   ·refine⟨λi _=>y i,.inr ⟨b,N,h.toList.map enc,rest,el,fr,rfl,?_,?_,oI (by simp[u]) C,g5,?_,λe=>zG⟩⟩
    ·show(w.heap.modify b _)[b]? =_
     rw[Array.getElem?_modify,if_pos A,g2]
     show some (Obj.cells _ _ _)=_
     rw[AL O]
    all_goals grind
  refine ht.under (w':=sortWorld enc w b 0 m h os) ⟨rfl,rfl,rfl,?_,λk q=>?_⟩
  ·show _<=(_++os).size
   simp
  ·show(_++os)[k]? =_
   grind
theorem Je(n)(W):dp (ltOf Lib.compareInt) n W=((List.range n).map W).mergeSort λx y=>decide (x<=y):=by
 unfold dp
 congr 1
 funext x y
 rw[I8]
 grind
theorem Jf{ρ W n vs}(b:vs.length=n)(a:∀i,i<n->∃v,vs[i]? =some v/\aU ρ (ae W i) [v]):((List.range n).map W).map (Value.int .i64)=vs:=by
 apply List.ext_getElem?
 intro i
 by_cases hi:i<n
 ·obtain⟨v,g1,g2⟩:=a i hi
  have g2:aU ρ [.int .i64 (W i)] [v]:=g2
  have:=(aU.aL.1 g2).1
  simp only[VR]at this
  grind
 grind
noncomputable def T8:aC PP II where
 f:=345
 spec X args H p _:=match args with
  |[.own l n 1]=>match H.get l with
   | .rows m 1 f (.ty 3)=>X.ak (bA n f&&Nat.beq n m&&Nat.blt 0 n&&Nat.blt n 4611686018427387904) (p (.bK []) ((H.set l (.rows n 1 (ae (aM f)) (.ty 3))).set l (.rows n 1 (ae (bQ n (aM f))) (.ty 3))))
   |_=>X.fail
  |_=>X.fail
 ok X sem hX args H p kp h:=by
  split at h
  ·rename_i l n
   split at h
   ·rename_i m f hl
    obtain⟨q,r⟩:=hX.ak _ _ h
    simp only[bf,Nat.blt_eq]at q
    obtain⟨⟨⟨a1,a2⟩,E⟩,a4⟩:=q
    cases dE a2
    refine⟨.ret _ _,r,λc ρ w vs hG s t=>?_⟩
    obtain⟨u,us,rfl,v,rfl⟩:=s
    rcases v with⟨e,_⟩|⟨b,N,cap,x,rfl,y,C⟩
    ·omega
    have g:=t.GY hl a1
    obtain⟨j,vs,g1,g2,g3,g4⟩:=g.GZ (l:=l) (n:=n) (R:=ae (aM f)) (AH.get_set_same _ _ _) x λ_=>rfl
    have o:=Jf g1 g2
    obtain⟨D,d⟩:=g4 (Value.int .i64) ((List.range n).map (aM f)).toArray o
    have a:((List.range n).map (aM f)).length=n:=zA
    have:=Any.slices_Sort_int Tryz.Jd b 0 cap ((List.range n).map (aM f)) w D j (by rw[a];exact a4)
    change Calls Tryz.prog 345 _ _ _ at this
    rw[a]at this
    refine .inl ⟨enters_of Tryz.func345 U A _ w,this.mono ?_⟩
    rintro e w' ⟨rfl,k,os,rfl⟩
    refine⟨ρ,Ext.refl ρ,d _ (ae (bQ n (aM f))) k os ?_ (λ_=>rfl) (λ_=>rfl) λi hi=>?_,[],rfl,rfl⟩
    ·simp
    ·refine⟨.int .i64 (bQ n (aM f) i),?_,⟨_,[],rfl,rfl,rfl⟩⟩
     have F:=nR (ltOf Lib.compareInt) n (aM f)
     have e:=Je n (aM f)
     rw[<-e]
     unfold bQ
     grind
   ·exact zR
  ·exact zR
end Go.Sx
end
section
set_option maxRecDepth 1000000
namespace Go.Sx
open Go
noncomputable def WR(k:Nat)(W:Nat->Int)(i:Int):AH:={n:=38,t:=Tr.ofList [(6,.cells dz (.ex 20)),(13,.cells [.str [],.str []] (.ty 30)),(34,.cells [.own 37 i.toNat 1] (.ty 26)),(35,.tE),(36,.loop .ready none (Tr.ofList [(2,.ptr 34 0 0 0)]) 13 [7] (bg II 347) (bh II 347) 35),(37,.rows i.toNat 1 (ae W) (.ty 3))]}
noncomputable def Cx(k:Nat)(W:Nat->Int)(i:Int):St:={t:=Tr.ofList [(0,.yield 36),(5,.az k 1 (ae W)),(6,.int .i64 (Int.ofNat k)),(7,.int .i64 i)],nt:=16,H:=WR k W i,df:=[]}
noncomputable def Cy(k:Nat)(W:Nat->Int):GE:=.one (.x 0 {t:=.e,nt:=16,H:=WR k W (Int.ofNat k),df:=[]})
theorem yS(k)(W)(i)(Q):(kr [] [] 346 1001 37 (Cx k W) (λ_=>Cy k W) (λi=>i+1) Q i)=(ah (decide (i<Int.ofNat k)) (aa (decide (0<=i)&&decide (i<Int.ofNat k)) (aa (decide (i.toNat<=i.toNat)&&true&&true&&decide ((i.toNat+1)*8<=140737488355328)&&true) (aa (aN .i64 (i+1)) (ax (i.toNat+1) (Int.toNat (i+1)) (an (i.toNat+1) (λa=>bif Nat.blt a i.toNat then ae W a else List.take 1 (List.drop (0+(a-i.toNat)*1) [AV.int .i64 (W i.toNat)])) (ae W)/\aT (bg II 347) (bg II 347)/\aT (bh II 347) (bh II 347)/\ax (i.toNat+1) (Int.toNat (i+1)) (zyB [] (zyB [] (zyI (i+1) (zyN k (zyR k (ae W) (zyI (Int.ofNat k) Q))))))))))) (ax i.toNat (Int.toNat (Int.ofNat k)) (zyR i.toNat (ae W) (aT (bg II 347) (bg II 347)/\aT (bh II 347) (bh II 347)/\ax i.toNat (Int.toNat (Int.ofNat k)) (zyB [] (zyB [] True)))))):=U
theorem Qw(nw ng k)(f g)(W)(a fl top)(nu de)(Q){b}(d:b=(if Int.tdiv (bl nu*Int.ofNat k+bl de-1) (bl de)>1 then Int.tdiv (bl nu*Int.ofNat k+bl de-1) (bl de)else 1)){c}(e:c=(bQ (Int.toNat (Int.ofNat k)) (λi=>W i) (Int.toNat (b-1)))):(kp [AB,T8,Cc] [(1001,37,Cx k W 0,Cy k W)] 341 [.agg [.az nw 3 f,.az ng 1 g,.int .i64 a,.int .i64 fl,.str nu,.str de,.int .i64 top],.az k 1 (ae W)] Q)=(aa (iX nu&&Nat.ble (List.length nu) 1000000) (aa (iX de&&Nat.ble (List.length de) 1000000) (Zu PP II false (aD II 346 1001) 37 (Cx k W 0) (Cy k W)/\aT (bg II 347) (bg II 347)/\aT (bh II 347) (bh II 347)/\zyB [] (zyB [] (zyN k (zyR k (ae W) (zyI (Int.ofNat k) (aa ((List.all (List.range.loop (Int.toNat (Int.ofNat k)) []) λi=>true)&&Nat.beq (Int.toNat (Int.ofNat k)) (Int.toNat (Int.ofNat k))&&Nat.blt 0 (Int.toNat (Int.ofNat k))&&Nat.blt (Int.toNat (Int.ofNat k)) 4611686018427387904) (aa (decide (Int.ofNat k=Int.ofNat k)) (aa (decide (Int.ofNat k=Int.ofNat k)) (aa (aN .i64 (bl nu*Int.ofNat k)) (aa (aN .i64 (bl nu*Int.ofNat k+bl de)) (aa (aN .i64 (bl nu*Int.ofNat k+bl de-1)) (aa (!decide (bl de=0)&&aN .i64 (Int.tdiv (bl nu*Int.ofNat k+bl de-1) (bl de))) (aa (aN .i64 (b-1)) (aa (decide (0<=b-1)&&decide (b-1<Int.ofNat (Int.toNat (Int.ofNat k)))) (aa (decide (Int.toNat (b-1)<Int.toNat (Int.ofNat k))) (aa (decide (0<=bQ (Int.toNat (Int.ofNat k)) (λi=>W i) (Int.toNat (b-1)))&&aN .i64 c) (Q (AV.agg [AV.str (bu (c.toNat/Nat.gcd c.toNat 1)),AV.str (bu (1/Nat.gcd c.toNat 1))])))))))))))))))))))):=by subst_vars;kernel_rfl
end Go.Sx
end
section
set_option maxRecDepth 1000000
namespace Go.Sx
open Go
noncomputable def Kf(b:Bool):GE:=.cond b (.one (.r {t:=Tr.ofList [(4,.bool true)],nt:=80,H:=AH.blank 14,df:=[]})) (.one (.x 0 {t:=.e,nt:=80,H:=AH.blank 14,df:=[]}))
end Go.Sx
end
section
set_option maxRecDepth 1000000
namespace Go.Sx
open Go
theorem Zl{p}[Decidable p]{x y}(h :¬ p->x)(k:p->y):ah (!decide p) x y:=by
 by_cases hp:p
 ·rw[bW hp];exact k hp
 ·rw[nZ hp];exact h hp
end Go.Sx
end
section
namespace Go.Sx.Small
inductive Pt where
 |fact
 |closed
 |node (l r:Pt)
def kinds:Pt->List Int
 | .fact=>[2]
 | .closed=>[3]
 | .node l r=>1::(kinds l++kinds r)
def facts:Pt->Nat
 | .fact=>1
 | .closed=>0
 | .node l r=>facts l+facts r
def opens:Pt->Nat
 | .node l r=>1+opens l+opens r
 |_=>0
def kl:Pt->Nat
 | .node l r=>1+max (kl l) (kl r)
 |_=>0
def qg:Pt->Bool
 | .node l r=>Nat.beq (facts l+facts r) 0||(qg l||qg r)
 |_=>false
def Qx:List Int->Int->Nat->Nat
 |[],_,f=>f
 |k::ks,left,f=>bif decide (left>0)then Qx ks (bif decide (k=1)then left-1+2 else left-1) (bif decide (k=2)then f+1 else f)else f
def rK:List Int->Bool
 |[]=>false
 |k::ks=>(decide (k=1)&&Nat.beq (Qx ks 2 0) 0)||rK ks
def mb:List Int->Nat
 |[]=>0
 |k::ks=>(bif decide (k=2)then 1 else 0)+mb ks
def bits:Nat->Nat->Nat
 |0,_=>0
 |c+1,n=>bif Nat.beq n 0 then 0 else 1+bits c (n/2)
theorem Nj(l:List Int)(f:Nat):Qx l 0 f=f:=by cases l<;>simp[Qx]
theorem yT:∀(p:Pt)(rest:List Int)(left:Int)(f:Nat),0<=left->Qx (kinds p++rest) (left+1) f=Qx rest left (f+facts p):=by
 intro p
 induction p with
 |fact=>intro rest left f h;simp[kinds,Qx,facts,show(left+1>0)from by omega]
 |closed=>intro rest left f h;simp[kinds,Qx,facts,show(left+1>0)from by omega]
 |node l r a b=>
  intro rest left f h
  simp only[kinds,List.cons_append,Qx,bW (show(left+1>0)from by omega),cond_true,decide_true,show decide ((1:Int)=2)=false from rfl,cond_false]
  rw[show left+1-1+2=(left+1)+1 by omega,List.append_assoc,a _ _ _ (by omega),b _ _ _ h,facts,Nat.add_assoc]
theorem Fb:∀(p:Pt)(rest:List Int),rK (kinds p++rest)=(qg p||rK rest):=by
 intro p
 induction p with
 |fact=>intro rest;simp[kinds,rK,qg]
 |closed=>intro rest;simp[kinds,rK,qg]
 |node l r a b=>
  intro rest
  simp only[kinds,List.cons_append,rK,decide_true,Bool.true_and,qg]
  rw[List.append_assoc,a,b,show(2:Int)=(1:Int)+1 from rfl,yT l _ 1 0 (by omega),show(1:Int)=(0:Int)+1 from rfl,yT r _ 0 _ (by omega),Nj]
  simp only[Nat.zero_add,Bool.or_assoc]
theorem Cz:∀(p:Pt)(rest:List Int),mb (kinds p++rest)=facts p+mb rest:=by
 intro p
 induction p with
 |fact=>intro rest;simp[kinds,mb,facts]
 |closed=>intro rest;simp[kinds,mb,facts]
 |node l r a b=>
  intro rest
  simp only[kinds,List.cons_append,mb,facts,show decide ((1:Int)=2)=false from rfl,cond_false,Nat.zero_add]
  rw[List.append_assoc,a,b,Nat.add_assoc]
theorem Jg:∀p:Pt,(kinds p).length=2*opens p+1:=by
 intro p
 induction p with
 |fact=>rfl
 |closed=>rfl
 |node l r a b=>simp only[kinds,List.length_cons,List.length_append,a,b,opens];omega
theorem Nk:∀p:Pt,qg p=false->opens p<=facts p*kl p:=by
 intro p
 induction p with
 |fact=>intro _;simp[opens]
 |closed=>intro _;simp[opens]
 |node l r a b=>
  intro h
  simp only[qg,Bool.or_eq_false_iff]at h
  have c:facts l+facts r≠0:=λe=>by rw[e]at h;exact absurd h.1 (by decide)
  have d:=a h.2.1
  have f:=b h.2.2
  have a1:facts l*kl l<=facts l*max (kl l) (kl r):=Nat.mul_le_mul_left _ (Nat.le_max_left _ _)
  have a2:facts r*kl r<=facts r*max (kl l) (kl r):=Nat.mul_le_mul_left _ (Nat.le_max_right _ _)
  simp only[opens,facts,kl,Nat.mul_add,Nat.mul_one,Nat.add_mul]
  omega
theorem small(p:Pt)(m h:Nat)(j:opens p+1<=m)(b:kl p<=h)(d:Nat)(c:h<=d):
  (kinds p).length<=2*m-1/\(rK (kinds p)=true∨(kinds p).length<=max 1 (mb (kinds p)+2*mb (kinds p)*d)):=by
 have e:=Jg p
 have f:mb (kinds p)=facts p:=by have:=Cz p [];simpa [mb]using this
 have g:rK (kinds p)=qg p:=by have:=Fb p [];simpa [rK]using this
 refine⟨by omega,?_⟩
 rw[g,f,e]
 cases hi:qg p with
 |true=>exact .inl rfl
 |false=>
  right
  have a:=Nk p hi
  by_cases i:facts p=0
  ·rw[i]at a⊢
   simp at a
   rw[a];simp
  ·have k:facts p*kl p<=facts p*d:=Nat.mul_le_mul_left _ (Nat.le_trans b c)
   have:2*opens p+1<=facts p+2*facts p*d:=by
    rw[Nat.mul_assoc];omega
   omega
end Go.Sx.Small
end
section
set_option maxRecDepth 1000000
namespace Go.Sx
open Go
theorem Ua(x)(f d)(Q):(kb [] [] 81 [.agg (aF x),.int .i64 f,.int .i64 d] Q)=(ah (decide (f=1)) (Q (AV.int .i64 x.t)) (ah (decide (f=2)) (Q (AV.int .i64 x.v)) (ah (decide (f=3)) (Q (AV.int .i64 x.w)) (ah (decide (f=4)) (Q (AV.int .i64 x.o)) (ah (decide (f=5)) (Q (AV.int .i64 x.p)) (ah (decide (f=6)) (Q (AV.int .i64 x.d)) (ah (decide (f=7)) (Q (AV.int .i64 x.b)) (ah (decide (f=8)) (Q (AV.int .i64 d)) (Q (AV.int .i64 0)))))))))):=U
end Go.Sx
end
section
set_option maxRecDepth 1000000
namespace Go.Sx
open Go
def gJ(x:ay)(f d:Int):Int:=if f=1 then x.t else if f=2 then x.v else if f=3 then x.w else if f=4 then x.o else if f=5 then x.p else if f=6 then x.d else if f=7 then x.b else if f=8 then d else 0
theorem Ub(x:ay)(f d:Int):af PP II 81 [.agg (aF x),.int .i64 f,.int .i64 d] (AH.blank 12) (.ret (.int .i64 (gJ x f d)) (AH.blank 12)):=by
 refine bY (ks:=[]) (T:=[]) (λσ=>⟨rfl,rfl⟩) ?_
 rw[Ua]
 unfold gJ
 refine Zg (λh=>by rw[if_pos h]) λa=>?_
 rw[if_neg a]
 refine Zg (λh=>by rw[if_pos h]) λa=>?_
 rw[if_neg a]
 refine Zg (λh=>by rw[if_pos h]) λa=>?_
 rw[if_neg a]
 refine Zg (λh=>by rw[if_pos h]) λa=>?_
 rw[if_neg a]
 refine Zg (λh=>by rw[if_pos h]) λa=>?_
 rw[if_neg a]
 refine Zg (λh=>by rw[if_pos h]) λa=>?_
 rw[if_neg a]
 refine Zg (λh=>by rw[if_pos h]) λa=>?_
 rw[if_neg a]
 refine Zg (λh=>by rw[if_pos h]) λa=>?_
 rw[if_neg a]
noncomputable def jr:aC PP II:=aC.pure 81
 (λX args a=>match args with
  |[.agg cs,.int .i64 f,.int .i64 d]=>match iV cs with
   |some x=>a (.int .i64 (gJ x f d))
   |none=>X.fail
  |_=>X.fail)
 λX sem hX args a h=>by
  split at h
  ·rename_i cs f d
   split at h
   ·rename_i x hx
    have e:=fK hx
    subst e
    exact⟨_,h,λ_=>rfl,λ_=>rfl,Ub x f d⟩
   ·exact zR
  ·exact zR
noncomputable def Jh(b:Bool):GE:=.cond b (.one (.r {t:=Tr.ofList [(4,.bool true)],nt:=35,H:=AH.blank 14,df:=[]})) (.one (.x 0 {t:=.e,nt:=35,H:=AH.blank 14,df:=[]}))
end Go.Sx
end
