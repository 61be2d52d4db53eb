/- Lemmas, part 28. -/
import Derived.Test.YtoijalagmmgkbaaGreatDoorX27
import Derived.Test.YtoijalagmmgkbaaGreatDoorX26
set_option linter.all false
set_option linter.defProp false
set_option maxRecDepth 1000000
namespace Go.Sx
open Go
open Int renaming ofNat->M,toNat->z,tdiv->j_,le_refl->H_
open Decidable renaming decide->a_
open Nat renaming blt->b_,gcd->e_,beq->p_,ble->q_,blt_eq->A_,gcd_dvd_right->B_,div_le_self->D_
open List renaming range->c_,all->h_,getD_eq_getElem?_getD->k_,range_succ->l_,filter_append->n_,getElem_mem->r_,all_eq_true->s_,take->u_,drop->v_,mem_mergeSort->x_,length_append->y_,ext_getElem?->z_,length->F_
open Go.IntKind renaming i64->d_
open AV renaming str->f_,int->i_,agg->o_,ab->w_
open AH renaming get_set_same->g_,pr->I_
open Bool renaming true_and->m_,or_eq_true->C_
open Tr renaming ofList->t_
noncomputable section
section
open Go.Proofs Go.Sort
def AL{α}[Inhabited α]{enc}{d:Array α}{vs}(hl:vs.length=d.size)(rest):putCells enc 0 d (vs++rest).toArray=(d.toList.map enc++rest).toArray:=by
 have a:(d.toList.map enc).length=d.size:=zA
 apply Array.ext_getElem?
 intro k
 simp only[putCells,Array.getElem?_mapIdx,List.getElem?_toArray]
 grind
def mT{ρ f}(a:∀i,(f i).length=1):∀{n vs},aU ρ (rowsOf n f) vs->vs.length=n/\∀i,i<n->∃v,vs[i]? =Option.some v/\aU ρ (f i) [v]
 |0,vs,h=>by
  have h:vs=[]:=h
  grind
 |n+1,vs,h=>by
  rw[show rowsOf (n+1) f=rowsOf n f++f n by simp[rowsOf,l_]]at h
  obtain⟨us,ws,rfl,k1,k2⟩:=oF h
  obtain⟨e1,c⟩:=mT a k1
  have b:ws.length=1:=by rw[<-k2.length_eq,a]
  obtain⟨v,rfl⟩:=List.length_eq_one_iff.1 b
  grind
def oI{ρ:Env}{f:Nat->List AV}:∀{n:Nat}{vs:List Value},vs.length=n->(∀i,i<n->∃v,vs[i]? =Option.some v/\aU ρ (f i) [v])->aU ρ (rowsOf n f) vs
 |0,vs,h,_=>List.eq_nil_of_length_eq_zero h
 |n+1,vs,h,k=>by
  rw[show rowsOf (n+1) f=rowsOf n f++f n by simp[rowsOf,l_]]
  obtain⟨v,g1,g2⟩:=k n O
  have e:vs=vs.take n++[v]:=by
   rw[<-List.take_append_drop n vs]
   have:vs.drop n=[v]:=by
    apply z_
    intro i
    rw[List.getElem?_drop]
    cases i with
    |zero=>exact g1
    |succ i=>grind
   rw[this]
   congr 1
   rw[List.take_append_of_le_length zJ,List.take_take,Nat.min_self]
  rw[e]
  refine(oI zJ λi hi=>?_).append g2
  obtain⟨u,a,b⟩:=k i O
  grind
def Rel.GZ{c:fw}{ρ:Env}{H:AH}{w:World}{l n T b N:Nat}{R:Nat->List AV}(C:Rel c ρ H w)(hl:H.get l= .rows n 1 R (.ty T))(D:ρ l=Option.some (b,N))(E:∀i,(R i).length=1):
  b<w.heap.size/\∃vs:List Value,vs.length=n/\(∀i,i<n->∃v,vs[i]? =Option.some v/\aU ρ (R i) [v])/\(∀v∈vs,v.oneCell'=true)/\
   ∀{α:Type} [Inhabited α] (enc:α->Value) (d:Array α),d.toList.map enc=vs->Holds enc w b 0 d/\∀(h:Array α)(o:Nat->List AV)(m:Nat)(os:Array Obj),h.size=n->(∀a,(enc a).oneCell'=true)->(∀i,(o i).length=1)->
    (∀i,i<n->∃v,(h.toList.map enc)[i]? =Option.some v/\aU ρ (o i) [v])->Rel c ρ (H.set l (.rows n 1 o (.ty T))) (sortWorld enc w b 0 m h os):=by
 have q:bp ρ w (ρ l) (.rows n 1 R (.ty T)):=by rw[<-hl];exact C.dF l
 have s:(H.get l).rw=true:=by rw[hl];rfl
 rw[D]at q
 rcases q.2 with⟨_,e⟩|⟨K,L,vs,rest,el,fr,g1,g2,g3,g4,g5,g6,g7⟩
 ·cases e
 cases g1
 have t:b<w.heap.size:=(Array.getElem?_eq_some_iff.1 g2).1
 obtain⟨f,F⟩:=mT E g4
 refine⟨t,vs,f,F,g6,λ{α} _ enc d G=>?_⟩
 have I:d.size=n:=by rw[<-f,<-G];simp
 refine⟨λj P=>⟨?_,?_⟩,λh o m os u J y B=>?_⟩
 ·show(match w.heap[b]? with|some (.cells c _ _)=>_|_=>_)=_
  grind
 ·show(match w.heap[b]? with|some (.cells _ _ (lo,hi))=>_|_=>_)=_
  rw[g2]
  obtain⟨lo,hi⟩:=fr
  have Q:=g5.w A j Y
  grind
 ·have ht:Rel c ρ (H.set l (.rows n 1 o (.ty T))) (putRow enc (Sort.ahead w m) b 0 h):=by
   refine C.fC _ s D (λk q=>?_) ?_ A A A ?_
   ·show(w.heap.modify b _)[k]? =_
    grind
   ·simp
   ·refine⟨λi _=>y i,.inr ⟨b,N,h.toList.map enc,rest,el,fr,rfl,?_,?_,oI (by simp[u]) B,g5,?_,λe=>zG⟩⟩
    ·show(w.heap.modify b _)[b]? =_
     rw[Array.getElem?_modify,if_pos A,g2]
     show some (Obj.cells _ _ _)=_
     rw[AL O]
    all_goals grind
  refine ht.under (w':=sortWorld enc w b 0 m h os) ⟨rfl,rfl,rfl,?_,λk q=>?_⟩
  ·show _<=(_++os).size
   simp
  ·show(_++os)[k]? =_
   grind
def Je(n)(W):dp (ltOf Lib.compareInt) n W=((c_ n).map W).mergeSort λx y=>a_ (x<=y):=by
 unfold dp
 congr 1
 funext x y
 rw[I8]
 grind
def Jf{ρ W n vs}(b:vs.length=n)(a:∀i,i<n->∃v,vs[i]? =Option.some v/\aU ρ (ae W i) [v]):((c_ n).map W).map (Value.int d_)=vs:=by
 apply z_
 intro i
 by_cases hi:i<n
 ·obtain⟨v,g1,g2⟩:=a i hi
  have g2:aU ρ [.int d_ (W i)] [v]:=g2
  have:=(aU.aL.1 g2).1
  simp only[VR]at this
  grind
 grind
def T8:aC PP II where
 f:=345
 spec X args H p _:=match args with
  |[.own l n 1]=>match H.get l with
   | .rows m 1 f (.ty 3)=>X.bq (bA n f&&p_ n m&&b_ 0 n&&b_ n 4611686018427387904) (p (.qP []) ((H.set l (.rows n 1 (ae (aM f)) (.ty 3))).set l (.rows n 1 (ae (bQ n (aM f))) (.ty 3))))
   |_=>X.fail
  |_=>X.fail
 ok X sem hX args H p kp h:=by
  split at h
  ·rename_i l n
   split at h
   ·rename_i m f hl
    obtain⟨q,r⟩:=hX.bq _ _ h
    simp only[bf,A_]at q
    obtain⟨⟨⟨a1,a2⟩,D⟩,s⟩:=q
    cases dE a2
    refine⟨.ret _ _,r,λc ρ w vs hG t v=>?_⟩
    obtain⟨u,us,rfl,e1,rfl⟩:=t
    rcases e1 with⟨e,_⟩|⟨b,N,cap,x,rfl,y,B⟩
    ·omega
    have g:=v.GY hl a1
    obtain⟨j,vs,g1,g2,g3,g4⟩:=g.GZ (l:=l) (n:=n) (R:=ae (aM f)) (g_ _ _ _) x λ_=>rfl
    have o:=Jf g1 g2
    obtain⟨C,d⟩:=g4 (Value.int d_) ((c_ n).map (aM f)).toArray o
    have a:((c_ n).map (aM f)).length=n:=zA
    have:=Any.slices_Sort_int Tryz.Jd b 0 cap ((c_ n).map (aM f)) w C j (by rw[a];exact s)
    change Calls Tryz.prog 345 _ _ _ at this
    rw[a]at this
    refine .inl ⟨by rfl,this.mono ?_⟩
    rintro e w' ⟨rfl,k,os,rfl⟩
    refine⟨ρ,Ext.refl ρ,d _ (ae (bQ n (aM f))) k os ?_ (λ_=>rfl) (λ_=>rfl) λi hi=>?_,[],rfl,rfl⟩
    ·simp
    ·refine⟨.int d_ (bQ n (aM f) i),?_,⟨_,[],rfl,rfl,rfl⟩⟩
     have E:=nR (ltOf Lib.compareInt) n (aM f)
     have e:=Je n (aM f)
     rw[<-e]
     unfold bQ
     grind
   ·exact zR
  ·exact zR
end
def WR(k:Nat)(W:Nat->Int)(i:Int):AH:={n:=38,t:=t_ [(6,.cells dz (.ex 20)),(13,.cells [.str [],.str []] (.ty 30)),(34,.cells [.own 37 i.toNat 1] (.ty 26)),(35,.tE),(36,.loop .ready none (t_ [(2,.ptr 34 0 0 0)]) 13 [7] (bg II 347) (bh II 347) 35),(37,.rows i.toNat 1 (ae W) (.ty 3))]}
def Cx(k:Nat)(W:Nat->Int)(i:Int):St:={t:=t_ [(0,.yield 36),(5,.ab k 1 (ae W)),(6,.int d_ (M k)),(7,.int d_ i)],nt:=16,H:=WR k W i,df:=[]}
def Cy(k:Nat)(W:Nat->Int):GE:=.one (.x 0 {t:=.e,nt:=16,H:=WR k W (M k),df:=[]})
def yS(k:Nat)(W:Nat->Int)(i:Int)(Q:Prop):(kr [] [] 346 1001 37 (Cx k W) (λ_=>Cy k W) (λi=>i+1) Q i)=(ah (a_ (i<M k)) (aa (a_ (0<=i)&&a_ (i<M k)) (aa (a_ (i.toNat<=i.toNat)&&true&&true&&a_ ((i.toNat+1)*8<=140737488355328)&&true) (aa (aN d_ (i+1)) (ax (i.toNat+1) (z (i+1)) (an (i.toNat+1) (λa=>bif b_ a i.toNat then ae W a else u_ 1 (v_ (0+(a-i.toNat)*1) [i_ d_ (W i.toNat)])) (ae W)/\aT (bg II 347) (bg II 347)/\aT (bh II 347) (bh II 347)/\ax (i.toNat+1) (z (i+1)) (zyB [] (zyB [] (zyI (i+1) (zyN k (zyR k (ae W) (zyI (M k) Q))))))))))) (ax i.toNat (z (M k)) (zyR i.toNat (ae W) (aT (bg II 347) (bg II 347)/\aT (bh II 347) (bh II 347)/\ax i.toNat (z (M k)) (zyB [] (zyB [] True)))))):=U
def Qw(nw ng k:Nat)(f g:Nat->List AV)(W:Nat->Int)(a fl top:Int)(nu de:List UInt8)(Q:AV->Prop){b}(d:b=(if j_ (bl nu*M k+bl de-1) (bl de)>1 then j_ (bl nu*M k+bl de-1) (bl de)else 1)){c}(e:c=(bQ (z (M k)) (λi=>W i) (z (b-1)))):(kp [AB,T8,Cc] [(1001,37,Cx k W 0,Cy k W)] 341 [.agg [.ab nw 3 f,.ab ng 1 g,.int d_ a,.int d_ fl,.str nu,.str de,.int d_ top],.ab k 1 (ae W)] Q)=(aa (iX nu&&q_ (F_ nu) 1000000) (aa (iX de&&q_ (F_ de) 1000000) (eu PP II false (aD II 346 1001) 37 (Cx k W 0) (Cy k W)/\aT (bg II 347) (bg II 347)/\aT (bh II 347) (bh II 347)/\zyB [] (zyB [] (zyN k (zyR k (ae W) (zyI (M k) (aa ((h_ (List.range.loop (z (M k)) []) λi=>true)&&p_ (z (M k)) (z (M k))&&b_ 0 (z (M k))&&b_ (z (M k)) 4611686018427387904) (aa (a_ (M k=M k)) (aa (a_ (M k=M k)) (aa (aN d_ (bl nu*M k)) (aa (aN d_ (bl nu*M k+bl de)) (aa (aN d_ (bl nu*M k+bl de-1)) (aa (!decide (bl de=0)&&aN d_ (j_ (bl nu*M k+bl de-1) (bl de))) (aa (aN d_ (b-1)) (aa (a_ (0<=b-1)&&a_ (b-1<M (z (M k)))) (aa (a_ (z (b-1)<z (M k))) (aa (a_ (0<=bQ (z (M k)) (λi=>W i) (z (b-1)))&&aN d_ c) (Q (o_ [f_ (bu (c.toNat/e_ c.toNat 1)),f_ (bu (1/e_ c.toNat 1))])))))))))))))))))))):=by subst_vars;kernel_rfl
section
open Go.Sort Go.Shelf Go.Proofs
def bX(k:Nat)(W:Nat->Int):Bool:=q_ k 1000&&(c_ k).all λi=>a_ (0<=W i)&&a_ (W i<=4398046511104)
def dW{k W}(h:bX k W=true):k<=1000/\∀i,i<k->0<=W i/\W i<=4398046511104:=by
 unfold bX at h
 simp_all
def Jm{k W}(e:k<=1000000):eu PP II false (aD II 346 1001) 37 (Cx k W 0) (Cy k W):=by
 refine eu.wL [] (n:=k) A λi hi Q hQ=>?_
 by_cases a:i<k
 ·have go:∀(j:Int)(Q:Prop),j=(i:Int)->Q->kr [] [] 346 1001 37 (Cx k W) (λ_=>Cy k W) (λi=>i+1) Q j:=λj Q b hQ=>by
   rw[yS]
   have e1:z j=i:=O
   have c:z (j+1)=i+1:=O
   have d:M k=(k:Int):=rfl
   rw[e1,c]
   have rows:=ey W i (W i) A
   refine Zg (λ_=>?_) O
   refine cC _ _ Y (cC _ _ Y (cC _ _ (aq O O) ?_))
   exact YG A ⟨rows,rfl,rfl,YG A (Zi A (Zi A (Zf A (YG A ⟨bL _ _,Zf A hQ⟩))))⟩
  grind
 ·have hi:i=k:=by omega
  subst hi
  have go:∀(j:Int)(Q:Prop),j=(i:Int)->kr [] [] 346 1001 37 (Cx i W) (λ_=>Cy i W) (λi=>i+1) Q j:=λj Q b=>by
   rw[yS]
   have d:M i=(i:Int):=rfl
   have e1:z j=z (M i):=O
   refine Zg O λ_=>?_
   rw[e1]
   exact YG A ⟨bL _ _,rfl,rfl,YG A (Zi A (Zi A trivial))⟩
  grind
def lC(nu de:List UInt8)(k:Nat):Int:=(if j_ (bl nu*M k+bl de-1) (bl de)>1 then j_ (bl nu*M k+bl de-1) (bl de)else 1)-1
def iD(nu de:List UInt8)(k:Nat)(W:Nat->Int):Int:=bQ k W (lC nu de k).toNat
structure SQ (nu de:List UInt8):Prop where
 a1:iX nu=true
 a2:iX de=true
 l1:nu.length<=1000000
 l2:de.length<=1000000
 n0:0<=bl nu
 nd:bl nu<=bl de
 d1:1<=bl de
 d10:bl de<=10
def SR{nu de}(h:oa nu de=true):SQ nu de:=by
 unfold oa at h
 rw[List.any_eq_true]at h
 obtain⟨k,a,h⟩:=h
 simp only[bf,bn]at h
 obtain⟨rfl,rfl⟩:=h
 have a:=List.mem_range.1 a
 match k,a with
 |0,_=>exact⟨rfl,rfl,zC,zC,zC,zC,zC,zC⟩
 |1,_=>exact⟨rfl,rfl,zC,zC,zC,zC,zC,zC⟩
 |2,_=>exact⟨rfl,rfl,zC,zC,zC,zC,zC,zC⟩
 |3,_=>exact⟨rfl,rfl,zC,zC,zC,zC,zC,zC⟩
 |4,_=>exact⟨rfl,rfl,zC,zC,zC,zC,zC,zC⟩
 |5,_=>exact⟨rfl,rfl,zC,zC,zC,zC,zC,zC⟩
 |6,_=>exact⟨rfl,rfl,zC,zC,zC,zC,zC,zC⟩
 |7,_=>exact⟨rfl,rfl,zC,zC,zC,zC,zC,zC⟩
 |8,_=>exact⟨rfl,rfl,zC,zC,zC,zC,zC,zC⟩
 |9,_=>exact⟨rfl,rfl,zC,zC,zC,zC,zC,zC⟩
 |10,_=>exact⟨rfl,rfl,zC,zC,zC,zC,zC,zC⟩
 |k+11,h=>omega
def qI{k W i}(hi:i<k):∃j,j<k/\bQ k W i=W j:=by
 have a:=nR (ltOf Lib.compareInt) k W
 have:bQ k W i∈dp (ltOf Lib.compareInt) k W:=by
  unfold bQ
  rw[k_,mo O]
  exact r_ _
 unfold dp at this
 rw[x_]at this
 grind
def yV{nu de}(h:SQ nu de){k}(c:0<k)(f:k<=1000):0<=lC nu de k/\lC nu de k<k/\0<=bl nu*M k/\bl nu*M k<=10000/\0<=j_ (bl nu*M k+bl de-1) (bl de)/\j_ (bl nu*M k+bl de-1) (bl de)<=k:=by
 obtain⟨_,_,_,_,n0,nd,d1,d10⟩:=h
 unfold lC
 have a:(0:Int)<=M k:=Int.natCast_nonneg k
 have b:M k=(k:Int):=rfl
 generalize bl nu=n at*
 generalize bl de=d at*
 have g:0<=n*M k:=Int.mul_nonneg n0 a
 have i:n*M k<=d*M k:=ZD
 have j:d*M k<=10*M k:=ZD
 have e:j_ (n*M k+d-1) d=(n*M k+d-1)/d:=Y
 rw[e]
 have l:0<=(n*M k+d-1)/d:=Int.ediv_nonneg O O
 have m:(n*M k+d-1)/d<(k:Int)+1:=by
  refine Int.ediv_lt_of_lt_mul O ?_
  rw[Int.add_mul,Int.mul_comm (k:Int) d]
  have o:d*M k=d*(k:Int):=rfl
  omega
 omega
def QB{nw ng k:Nat}{f g:Nat->List AV}{W:Nat->Int}{a fl top:Int}{nu de:List UInt8}(e:bX k W=true)(d:0<k)(h:oa nu de=true):
  af PP II 341 [rJ nw ng f g a fl top nu de,.ab k 1 (ae W)] HP (.ret (kA (iD nu de k W).toNat 1) HP):=by
 have b:=SR h
 obtain⟨l,m⟩:=dW e
 obtain⟨n,o,u,v,t1,t2⟩:=yV b d l
 obtain⟨j,p,q⟩:=qI (W:=W) (i:=(lC nu de k).toNat) (O:(lC nu de k).toNat<k)
 have c:=m j p
 rw[<-q]at c
 refine kz (T:=[(1001,37,Cx k W 0,Cy k W)]) ((Qw nw ng k f g W a fl top nu de _ A A).mpr ?_)
 obtain⟨a1,a2,l1,l2,n0,nd,d1,d10⟩:=b
 have r:=Jm (W:=W) (O:k<=1000000)
 have s:z (M k)=k:=rfl
 rw[s]
 have c0:(h_ (List.range.loop k []) λi=>true)=true:=List.all_eq_true.2 λ_ _=>rfl
 refine cC _ _ (by rw[a1,kV l1];rfl) (cC _ _ (by rw[a2,kV l2];rfl) ⟨r,rfl,rfl,Zi A (Zi A (YG A ⟨bL _ _,Zf A ?_⟩))⟩)
 refine cC _ _ (by rw[c0,ni,eV d,eV (O:k<4611686018427387904)];rfl) (cC _ _ (bW A) (cC _ _ (bW A) ?_))
 refine cC _ _ (aq O O) (cC _ _ (aq O O) (cC _ _ (aq O O) (cC _ _ ?_ ?_)))
 ·rw[aq O O,nZ O];rfl
 have eq:(if j_ (bl nu*M k+bl de-1) (bl de)>1 then j_ (bl nu*M k+bl de-1) (bl de)else 1)-1=lC nu de k:=rfl
 rw[eq]
 have t:bQ k (λi=>W i) (lC nu de k).toNat=iD nu de k W:=rfl
 rw[t]
 have c:0<=iD nu de k W/\iD nu de k W<=4398046511104:=c
 refine cC _ _ (aq O O) (cC _ _ ?_ (cC _ _ (bW O) (cC _ _ (AJ c.1 (aq O O)) (λ_=>⟨rfl,rfl,trivial⟩))))
 simp only[bf,bn]
 exact⟨n,o⟩
def SS:aC PP II:=aC.l8 341
 (λX args b=>match args with
  |[.agg [.ab _ 3 _,.ab _ 1 _,.int d_ _,.int d_ _,.str nu,.str de,.int d_ _],.ab k 1 r]=>X.bq (bA k r&&bX k (aM r)&&b_ 0 k&&oa nu de) (b (kA (iD nu de k (aM r)).toNat 1))
  |_=>X.fail)
 λX sem hX args b h=>by
  split at h
  ·obtain⟨a,c⟩:=hX.bq _ _ h
   simp only[bf,A_]at a
   exact⟨_,c,λ_=>rfl,λ_=>rfl,af.rI (QB a.1.1.2 a.1.2 a.2) (cy a.1.1.1)⟩
  ·exact zR
def Up(q)(k)(W)(Q){b}(e:b=(z (du (λi=>W i) k))){c}(f:c=(h_ (List.range.loop k []) λi=>true)){d}(g:d=(iD q.nu q.de k λi=>W i)):(kq [SM,acZ,SO,SP,SS] [] 44 [.agg (aY q),.ab k 1 (ae W)] Q)=(ah (a_ (M k=0)) (Q (o_ [f_ [48],f_ [49]])) (ah (a_ (q.a=1)) (aa (c&&aN d_ (M k)) (Q (o_ [f_ (bu (k/e_ k 1)),f_ (bu (1/e_ k 1))]))) (ah (a_ (q.a=2)) (aa (LH k (ae W)&&a_ (0<=du (λi=>W i) k)) (Q (o_ [f_ (bu (z (du (λi=>W i) k)/e_ b 1)),f_ (bu (1/e_ b 1))]))) (ah (a_ (q.a=3)) (aa (LH k (ae W)&&a_ (0<=du (λi=>W i) k)&&b_ 0 k&&aN d_ (M k)) (Q (o_ [f_ (bu (z (du (λi=>W i) k)/e_ b k)),f_ (bu (k/e_ b k))]))) (ah (a_ (q.a=4)) (aa (c&&q_ k 1000000000000&&b_ 0 k&&a_ (0<=cG (λi=>W i) k)&&aN d_ (cG (λi=>W i) k)) (Q (o_ [f_ (bu (z (cG (λi=>W i) k)/e_ (z (cG (λi=>W i) k)) 1)),f_ (bu (1/e_ (z (cG (λi=>W i) k)) 1))]))) (ah (a_ (q.a=5)) (aa ((c&&bX k λi=>W i)&&b_ 0 k&&oa q.nu q.de) (Q (o_ [f_ (bu (d.toNat/e_ d.toNat 1)),f_ (bu (1/e_ d.toNat 1))]))) False)))))):=by subst_vars;kernel_rfl
end
section
open Go.Sort Go.Shelf Go.Proofs
def jO(q:Query)(k:Nat)(W:Nat->Int):Nat×Nat :=
 if k=0 then(0,1)else if q.a=1 then(k,1)else if q.a=2 then((du W k).toNat,1)else if q.a=3 then((du W k).toNat,k)else if q.a=4 then((cG W k).toNat,1)else((iD q.nu q.de k W).toNat,1)
def c8(q:Query)(k:Nat)(W:Nat->Int):List UInt8:=bu ((jO q k W).1/e_ (jO q k W).1 (jO q k W).2)
def da(q:Query)(k:Nat)(W:Nat->Int):List UInt8:=bu ((jO q k W).2/e_ (jO q k W).1 (jO q k W).2)
def QD{W k}(h:∀i,i<k->0<=W i/\W i<=4398046511104):0<=du W k/\du W k<=4398046511104*k:=by
 induction k with
 |zero=>exact⟨H_ _,H_ _⟩
 |succ k a=>
  obtain⟨b,c⟩:=a λi hi=>h i O
  obtain⟨d,e⟩:=h k O
  show 0<=du W k+W k/\du W k+W k<=_
  omega
def pH(W):∀k,0<k->∃j,j<k/\cG W k=W j
 |1,_=>⟨0,O,by show(if W 0>W 0 then W 0 else W 0)=_;split<;>rfl⟩
 |k+2,_=>by
  obtain⟨j,a,e⟩:=pH W (k+1) O
  show ∃j,j<k+2/\(if W (k+1)>cG W (k+1)then W (k+1)else cG W (k+1))=W j
  grind
def ua{k W}(h:bX k W=true):LH k (ae W)=true/\0<=du W k/\du W k<=4398046511104000:=by
 obtain⟨d,b⟩:=dW h
 have a:=λ(i:Nat) (hi:i<=k)=>QD (W:=W) (k:=i) λj e=>b j O
 obtain⟨c,f⟩:=a k (dw _)
 refine⟨?_,c,O⟩
 unfold LH
 rw[dy,kV O,m_,m_,s_]
 intro i hi
 have hi:=List.mem_range.1 hi
 obtain⟨g,l⟩:=a i O
 show aN d_ (du W i)=true
 exact aq O O
def QE{q k W}(h:bX k W=true)(hq:Hl q=true):(jO q k W).1<9223372036854775808/\(jO q k W).2<9223372036854775808/\0<(jO q k W).2:=by
 obtain⟨e,d⟩:=dW h
 obtain⟨_,l,m⟩:=ua h
 unfold jO
 by_cases f:k=0
 grind
 rw[if_neg f]
 obtain⟨j,a,b⟩:=pH W k O
 have g:=d j a
 rw[<-b]at g
 split
 omega
 split
 omega
 split
 omega
 split
 omega
 ·rename_i n1 n o p
  refine⟨?_,by show 1<_;omega,Nat.one_pos⟩
  have ht:oa q.nu q.de=true:=by
   unfold Hl EV at hq
   simp only[bf,C_,bn]at hq
   rcases hq.2 with(h|h)|h
   ·omega
   ·exact h.2
   ·omega
  obtain⟨r,s,_⟩:=yV (SR ht) (O:0<k) e
  obtain⟨j,a,b⟩:=qI (W:=W) (i:=(lC q.nu q.de k).toNat) (O:(lC q.nu q.de k).toNat<k)
  have c:=d j a
  rw[<-b]at c
  have c:0<=iD q.nu q.de k W/\iD q.nu q.de k W<=4398046511104:=c
  omega
def Jn{n d:Nat}(hn:n<9223372036854775808)(b:d<9223372036854775808)(c:0<d):bJ (bu (n/e_ n d)) (bu (d/e_ n d))=true:=by
 have a:0<e_ n d:=Y
 have t1:=dS (D_ n (e_ n d)) (jL hn)
 have t2:=dS (D_ d (e_ n d)) (jL b)
 unfold bJ
 rw[dc t1,dc t2,cq,cq,eV (Nat.div_pos (Nat.le_of_dvd c (B_ n d)) a),Nat.gcd_div (Nat.gcd_dvd_left n d) (B_ n d),Nat.div_self a]
 rfl
def vb{q k W}(h:bX k W=true)(hq:Hl q=true):bJ (c8 q k W) (da q k W)=true:=by
 obtain⟨a,b,c⟩:=QE h hq
 exact Jn a b c
def Fj{q k W}(h:bX k W=true)(hq:Hl q=true):af PP II 44 [.agg (aY q),.ab k 1 (ae W)] HR (.ret (.agg [.str (c8 q k W),.str (da q k W)]) HR):=by
 obtain⟨w,l⟩:=dW h
 obtain⟨s0,x,y⟩:=ua h
 refine qh (ks:=[SM,acZ,SO,SP,SS]) (T:=[]) ?_
 rw[Up _ _ _ _ A A A]
 have c0:(h_ (List.range.loop k []) λi=>true)=true:=zA
 have fin:∀(a b c d:List UInt8),a=c->b=d->∀σ,AV.le σ (.agg [.str a,.str b]) (.agg [.str c,.str d]):=λa b c d e1 m σ=>⟨e1,m,trivial⟩
 unfold c8 da jO
 refine Zg (λe=>?_) λe=>?_
 ·have e:k=0:=Int.ofNat_inj.1 e
  rw[if_pos e]
  refine fin _ _ _ _ ?_ ?_
  ·show _=bu (0/e_ 0 1)
   exact ly.symm
  ·show _=bu (1/e_ 0 1)
   exact GR.symm
 have e:k≠0:=ZD
 rw[if_neg e]
 have kp:0<k:=Nat.pos_of_ne_zero e
 obtain⟨j,n,o⟩:=pH W k kp
 have p:=l j n
 rw[<-o]at p
 have r:aN d_ (cG W k)=true:=aq O O
 have s:aN d_ (M k)=true:=aq zA Y
 refine Zg (λa1=>?_) λn1=>Zg (λa2=>?_) λf=>Zg (λt=>?_) λg=>Zg (λu=>?_) λv=>Zg (λB=>?_) λC=>?_
 ·rw[if_pos a1]
  exact cC _ _ (by rw[c0,s];rfl) (fin _ _ _ _ A A)
 ·rw[if_neg n1,if_pos a2]
  exact cC _ _ Y (fin _ _ _ _ A A)
 ·rw[if_neg n1,if_neg f,if_pos t]
  exact cC _ _ ZD (fin _ _ _ _ A A)
 ·rw[if_neg n1,if_neg f,if_neg g,if_pos u]
  exact cC _ _ (by rw[c0,kV O,eV kp,bW ZD,show aN d_ (cG (λi=>W i) k)=true from r];rfl) (fin _ _ _ _ A A)
 ·rw[if_neg n1,if_neg f,if_neg g,if_neg v]
  have ht:oa q.nu q.de=true:=by
   unfold Hl EV at hq
   simp only[bf,C_,bn]at hq
   rcases hq.2 with(h|h)|h
   ·omega
   ·exact h.2
   ·omega
  exact cC _ _ ZD (fin _ _ _ _ A A)
 ·unfold Hl EV at hq
  grind
def fS:aC PP II:=aC.s9 44
 (λX args b=>match args with
  |[.agg cs,.ab k 1 r]=>match toQ cs with
   |some q=>X.bq (oA cs&&Hl q&&bA k r&&bX k (aM r)) (b (.agg [.str (c8 q k (aM r)),.str (da q k (aM r))]))
   |none=>X.fail
  |[.agg cs,.aw]=>match toQ cs with
   |some q=>X.bq (oA cs&&Hl q) (b (.agg [.str (c8 q 0 λ_=>0),.str (da q 0 λ_=>0)]))
   |none=>X.fail
  |_=>X.fail)
 λX sem hX args b h=>by
  split at h
  ·split at h
   ·rename_i q hq
    obtain⟨a,c⟩:=hX.bq _ _ h
    simp only[bf]at a
    refine⟨_,c,λ_=>rfl,λσ=>?_,af.dA (Fj a.2 a.1.1.2) (toQ_le hq a.1.1.1) (cy a.1.2)⟩
    show [AV.bD σ (.agg _),_]=_
    rw[nU hq];rfl
   ·exact zR
  ·split at h
   ·rename_i q hq
    obtain⟨a,c⟩:=hX.bq _ _ h
    simp only[bf]at a
    refine⟨_,c,λ_=>rfl,λσ=>?_,af.dA (Fj (k:=0) (W:=λ_=>0) A a.2) (toQ_le hq a.1) (by rfl)⟩
    show [AV.bD σ (.agg _),_]=_
    rw[nU hq];rfl
   ·exact zR
  ·exact zR
end
section
open Go.Sort Go.Shelf Go.Proofs
def Rel.Nv{c:fw}{ρ:Env}{H:AH}{w:World}{l:Nat}{f g:Nat->List AV}{a:Access}(h:Rel c ρ H w)(hl:H.get l= .rows 0 1 f a):Rel c ρ (H.set l (.rows 0 1 g a)) w:=by
 have g:∀j,j≠l->(H.set l (.rows 0 1 g a)).get j=H.get j:=λj e=>I_ _ _ (λd=>e d.symm)
 refine h.alike A (λj b=>?_) (λj=>?_) (λj=>?_)
 ·by_cases e:j=l
  ·subst e
   rw[g_]
   rw[hl]at b
   exact⟨λ_ hi=>absurd hi (lZ _),b.2⟩
  ·rw[g j e];exact b
 ·by_cases e:j=l
  ·subst e;rw[g_,hl];rfl
  ·rw[g j e]
 ·by_cases e:j=l
  ·subst e;rw[g_,hl];exact⟨(λe=>zG),(λe=>zG)⟩
  ·rw[g j e]
def cw:aC PP II where
 f:=150
 spec X args H p _:=match args with
  |[.own l n 1,.fn g [] []]=>match H.get l with
   | .rows m 1 f (.ty 3)=>X.bq (bA n f&&p_ n m&&b_ n 4611686018427387904&&q_ 12 l&&b_ l H.n) (match g with
    |99=>p (.qP []) (H.set l (.rows n 1 (ae (bQ n (aM f))) (.ty 3)))
    |102=>p (.qP []) (H.set l (.rows n 1 (ae (cK n (aM f))) (.ty 3)))
    |_=>X.fail)
   |_=>X.fail
  |_=>X.fail
 ok X sem hX args H p kp h:=by
  split at h
  ·rename_i l n g
   split at h
   ·rename_i m f hl
    obtain⟨u,j⟩:=hX.bq _ _ h
    simp only[bf,A_]at u
    obtain⟨⟨⟨⟨a1,a2⟩,x⟩,y⟩,B⟩:=u
    cases dE a2
    have key:∀b:Nat->Int,(0<n->af PP II 150 [.own 12 n 1,.fn g [] []] (lz n (aM f)) (.ret (.qP []) (lz n b)))->af PP II 150 [.own l n 1,.fn g [] []] H (.ret (.qP []) (H.set l (.rows n 1 (ae b) (.ty 3)))):=λb C=>by
     by_cases d:n=0
     ·subst d
      intro c ρ w vs hG q r
      exact AK c ρ w vs hG q (r.Nv hl)
     ·have:=Qn (C O) hl a1 (jX y) B
      intro c ρ w vs hG q r
      have e:∀(o:CO),o= .ret (.qP []) ((H.set l (.rows n 1 (ae (aM f)) (.ty 3))).set l (.rows n 1 (ae b) (.ty 3)))->∀e w',o.post c ρ e w'->(CO.ret (.qP []) (H.set l (.rows n 1 (ae b) (.ty 3)))).post c ρ e w':=by
       rintro _ rfl e w' hp
       cases e with
       |returned v=>
        obtain⟨ρ',hx,s,t⟩:=hp
        refine⟨ρ',hx,s.congr A λi=>?_,t⟩
        by_cases k:i=l
        ·subst k;rw[g_,g_]
        ·rw[I_ _ _ (λa=>k a.symm),I_ _ _ (λa=>k a.symm),I_ _ _ (λa=>k a.symm)]
       |panicked D=>exact hp.elim
       |outgrown=>exact hp.elim
      rcases this c ρ w vs hG q r with⟨k1,k2⟩|⟨v,w',k1,k2⟩
      ·exact .inl ⟨k1,k2.mono (e _ A)⟩
      ·exact .inr ⟨v,w',k1,e _ A _ _ k2⟩
    split at j
    ·exact⟨.ret _ _,j,key _ λd=>I9 d x⟩
    ·exact⟨.ret _ _,j,key _ λd=>Ja d x⟩
    ·exact absurd j hX.fail
   ·exact zR
  ·exact zR
def az(L G:Nat->Int)(C:Nat->Bool)(i:Nat):List AV:=[.int d_ (L i),.int d_ (G i),.bool (C i)]
end
section
open Go.Sort Go.Shelf Go.Proofs
def hQ(n:Nat)(a:List (Nat×eT)):AH:={n:=n,t:=t_ ([(0,.cells [.ab 5 2 aA] .ro),(1,.cells [.str [48],.str [49]] .ro),(3,.cells [.map (some 13)] .ro),(6,.cells dz (.ex 20)),(13,.map OZ)]++a)}
def hB(q:Query)(n:Nat)(a:List (Nat×eT)):AH:=hQ n ([(14,.cells (aY q) (.ty 32)),(15,.cells [.str [],.str []] (.ty 30))]++a)
def cE(e:Bool)(n:Nat):Nat:=bif e then n else n+3
def ud(e:Bool):aC PP II:=bif e then mR else je
def ue(e:Bool):aC PP II:=bif e then fO else fP
def wE(e:Bool)(L G:Nat->Int):Nat->Int:=bif e then L else G
def jb(e:Bool):Nat->(Nat->Int)->Nat->Int:=bif e then bQ else cK
def fv(e:Bool)(c:Int):Bool:=bif e then a_ (c<0)else a_ (c>0)
def ub(e:Bool)(a:List (Nat×AV)):Tr AV:=t_ ([(2,.fn (cE e 97) [] []),(3,.fn 95 [] []),(4,.fn (cE e 98) [] []),(5,.fn (cE e 99) [] []),(6,.ptr 14 0 0 0),(12,.ptr 15 0 0 0)]++a)
def pQ(e:Bool)(q:Query)(k:Nat)(L G:Nat->Int)(C:Nat->Bool)(b c:Int->Nat)(V a:Nat->Int)(i:Int):St:={t:=ub e [(13,.own 16 (b i) 1),(14,.own 17 (c i) 1),(20,.ab k 3 (az L G C)),(21,.int d_ (M k)),(22,.int d_ i)],nt:=69,H:=hB q 18 [(16,.rows (b i) 1 (ae V) (.ty 3)),(17,.rows (c i) 1 (ae a) (.ty 3))],df:=[]}
def pR(e:Bool)(q:Query)(b c:Nat)(V a:Nat->Int):GE:=.one (.x 0 {t:=ub e [(13,.own 16 b 1),(14,.own 17 c 1)],nt:=69,H:=hB q 18 [(16,.rows b 1 (ae V) (.ty 3)),(17,.rows c 1 (ae a) (.ty 3))],df:=[]})
def kB(e:Bool)(q:Query)(k:Nat)(L G:Nat->Int)(i:Int):St:={t:=ub e [(13,.aw),(14,.own 16 i.toNat 1),(20,.ab k 3 (az L G λ_=>false)),(21,.int d_ (M k)),(22,.int d_ i)],nt:=69,H:=hB q 17 [(16,.rows i.toNat 1 (ae (wE e L G)) (.ty 3))],df:=[]}
def kC(e:Bool)(q:Query)(k:Nat)(a:Nat->Int):GE:=.one (.x 0 {t:=ub e [(13,.aw),(14,.own 16 k 1)],nt:=69,H:=hB q 17 [(16,.rows k 1 (ae a) (.ty 3))],df:=[]})
def kD(e:Bool)(q:Query)(d c:Nat)(V a:Nat->Int)(b B:Int->List UInt8)(i:Int):St:={t:=ub e [(13,.own 16 d 1),(14,.own 17 c 1),(17,.ptr 18 0 0 0),(49,.int d_ (M c)),(50,.int d_ i)],nt:=69,H:=hB q 19 [(16,.rows d 1 (ae V) .ro),(17,.rows c 1 (ae a) (.ty 3)),(18,.cells [.str (b i),.str (B i)] (.ty 30))],df:=[]}
def Ro(e:Bool)(q:Query)(a b:List UInt8):GE:=.one (.x 2 {t:=ub e [(17,.ptr 18 0 0 0)],nt:=69,H:=hB q 19 [(18,.cells [.str a,.str b] (.ty 30))],df:=[]})
def kF(e:Bool)(q:Query)(c:Nat)(a:Nat->Int)(b B:Int->List UInt8)(i:Int):St:={t:=ub e [(13,.aw),(14,.own 16 c 1),(17,.ptr 17 0 0 0),(49,.int d_ (M c)),(50,.int d_ i)],nt:=69,H:=hB q 18 [(16,.rows c 1 (ae a) (.ty 3)),(17,.cells [.str (b i),.str (B i)] (.ty 30))],df:=[]}
def kG(e:Bool)(q:Query)(a b:List UInt8):GE:=.one (.x 2 {t:=ub e [(17,.ptr 17 0 0 0)],nt:=69,H:=hB q 18 [(17,.cells [.str a,.str b] (.ty 30))],df:=[]})
def uf(e:Bool)(q:Query)(k:Nat)(L G:Nat->Int)(C:Nat->Bool)(c d:Int->Nat)(V b:Nat->Int)(g h:Nat)(i:Int)(Q:Prop):(kr [fS,cw,cu,tp,ud e,ue e] [] 96 3001 16 (pQ e q k L G C c d V b) (λ_=>pR e q g h V b) (λi=>i+1) Q i)=(ah (a_ (i<M k)) (aa (a_ (0<=i)&&a_ (i<M k)) (ah (C i.toNat) (aa (a_ (c i<=c i)&&true&&true&&a_ ((c i+1)*8<=140737488355328)&&true) (aa (aN d_ (i+1)) (ax (d i) (d (i+1)) (zyR (d i) (ae b) (ax (c i+1) (c (i+1)) (an (c i+1) (λf=>bif b_ f (c i)then ae V f else u_ 1 (v_ (0+(f-c i)*1) [i_ d_ ((wE e L G) i.toNat)])) (ae V)/\zyB [] (zyB [] (zyN q.nw (zyR q.nw (au q.C) (zyN q.ng (zyR q.ng (aR q.G) (zyI q.a (zyI q.fl (zyB q.nu (zyB q.de (zyI q.top (zyB [48] (zyB [49] (zyR 5 aA (zyI (M k) (ax (c i+1) (c (i+1)) (zyN k (zyR k (az L G C) (zyI (i+1) (ax (d i) (d (i+1)) Q))))))))))))))))))))))))) (aa (a_ (d i<=d i)&&true&&true&&a_ ((d i+1)*8<=140737488355328)&&true) (aa (aN d_ (i+1)) (ax (d i+1) (d (i+1)) (an (d i+1) (λf=>bif b_ f (d i)then ae b f else u_ 1 (v_ (0+(f-d i)*1) [i_ d_ ((wE e L G) i.toNat)])) (ae b)/\ax (c i) (c (i+1)) (zyR (c i) (ae V) (zyB [] (zyB [] (zyN q.nw (zyR q.nw (au q.C) (zyN q.ng (zyR q.ng (aR q.G) (zyI q.a (zyI q.fl (zyB q.nu (zyB q.de (zyI q.top (zyB [48] (zyB [49] (zyR 5 aA (zyI (M k) (ax (c i) (c (i+1)) (zyN k (zyR k (az L G C) (zyI (i+1) (ax (d i+1) (d (i+1)) Q))))))))))))))))))))))))))) (ax (d i) h (zyR (d i) (ae b) (ax (c i) g (zyR (c i) (ae V) (zyB [] (zyB [] (zyN q.nw (zyR q.nw (au q.C) (zyN q.ng (zyR q.ng (aR q.G) (zyI q.a (zyI q.fl (zyB q.nu (zyB q.de (zyI q.top (zyB [48] (zyB [49] (zyR 5 aA (ax (c i) g (ax (d i) h True))))))))))))))))))))):=by cases e<;>kernel_rfl
def sJ(e:Bool)(q:Query)(k:Nat)(L G:Nat->Int)(i:Int)(Q:Prop):(kr [fS,cw,cu,tp,ud e,ue e] [] 96 3001 16 (kB e q k L G) (λ_=>kC e q k (wE e L G)) (λi=>i+1) Q i)=(ah (a_ (i<M k)) (aa (a_ (0<=i)&&a_ (i<M k)) (aa (a_ (i.toNat<=i.toNat)&&true&&true&&a_ ((i.toNat+1)*8<=140737488355328)&&true) (aa (aN d_ (i+1)) (ax (i.toNat+1) (z (i+1)) (an (i.toNat+1) (λb=>bif b_ b i.toNat then ae (wE e L G) b else u_ 1 (v_ (0+(b-i.toNat)*1) [i_ d_ ((wE e L G) i.toNat)])) (ae (wE e L G))/\zyB [] (zyB [] (zyN q.nw (zyR q.nw (au q.C) (zyN q.ng (zyR q.ng (aR q.G) (zyI q.a (zyI q.fl (zyB q.nu (zyB q.de (zyI q.top (zyB [48] (zyB [49] (zyR 5 aA (zyI (M k) (zyN k (zyR k (az L G λx=>false) (zyI (i+1) (ax (i.toNat+1) (z (i+1)) Q))))))))))))))))))))))) (ax i.toNat k (zyR i.toNat (ae (wE e L G)) (zyB [] (zyB [] (zyN q.nw (zyR q.nw (au q.C) (zyN q.ng (zyR q.ng (aR q.G) (zyI q.a (zyI q.fl (zyB q.nu (zyB q.de (zyI q.top (zyB [48] (zyB [49] (zyR 5 aA (ax i.toNat k True)))))))))))))))))):=by cases e<;>kernel_rfl
def uc(e:Bool)(q:Query)(f g:Nat)(V c:Nat->Int)(d B:Int->List UInt8)(a b:List UInt8)(i:Int)(Q:Prop){h}(n:h=(c8 {nw:=q.nw,C:=λj k=>bV (au q.C j) k,ng:=q.ng,G:=λj=>q.G j,a:=q.a,fl:=q.fl,nu:=q.nu,de:=q.de,top:=q.top} (f+z (i+1)) (aM λi=>bif b_ i f then ae (aM (ae V)) i else ae c (i-f)))){l}(o:l=(da {nw:=q.nw,C:=λj k=>bV (au q.C j) k,ng:=q.ng,G:=λj=>q.G j,a:=q.a,fl:=q.fl,nu:=q.nu,de:=q.de,top:=q.top} (f+z (i+1)) (aM λi=>bif b_ i f then ae (aM (ae V)) i else ae c (i-f)))){m}(p:m=((a_ (q.nw=q.nw)&&true&&h_ (c_ q.nw) λi=>a_ (q.C i 0=q.C i 0)&&(a_ (q.C i 1=q.C i 1)&&(a_ (q.C i 2=q.C i 2)&&true)))&&((a_ (q.ng=q.ng)&&true&&h_ (c_ q.ng) λi=>a_ (q.G i=q.G i)&&true)&&(a_ (q.a=q.a)&&(a_ (q.fl=q.fl)&&(a_ (q.nu=q.nu)&&(a_ (q.de=q.de)&&(a_ (q.top=q.top)&&true)))))))):(kr [fS,cw,cu,tp,ud e,ue e] [] 96 12001 19 (kD e q f g V c d B) (λ_=>Ro e q a b) (λi=>i+1) Q i)=(ah (a_ (i<M g)) (aa (b_ 0 f&&q_ f f&&bA f (ae V)&&q_ f 1000000000000&&true&&true) (aa m (aa (aN d_ (i+1)) (aa (a_ (0<=i+1)&&a_ (i+1<=M g)) (aa (a_ (0<=i+1)&&a_ (i+1<=M g)) (aa (a_ (z (i+1)=z (i+1))&&true) (aa (a_ (f<=f)&&a_ (z (i+1)<=g)&&true&&a_ ((f+z (i+1))*8<=140737488355328)&&true) (aa m (aa ((h_ (c_ (f+z (i+1))) λi=>bt.free (bif b_ i f then ae (aM (ae V)) i else ae c (i-f)))&&a_ (f+z (i+1)<=f+z (i+1))) (aa ((oA [w_ q.nw 3 (au q.C),w_ q.ng 1 (aR q.G),i_ d_ q.a,i_ d_ q.fl,f_ q.nu,f_ q.de,i_ d_ q.top]&&Hl {nw:=q.nw,C:=λj k=>bV (au q.C j) k,ng:=q.ng,G:=λj=>q.G j,a:=q.a,fl:=q.fl,nu:=q.nu,de:=q.de,top:=q.top}&&bA (f+z (i+1)) λi=>bif b_ i f then ae (aM (ae V)) i else ae c (i-f))&&bX (f+z (i+1)) (aM λi=>bif b_ i f then ae (aM (ae V)) i else ae c (i-f))) (aa (bJ h l&&bJ (d i) (B i)) (ah (fv e (bw (ao h) (ao l) (ao (d i)) (ao (B i)))) (aa (aN d_ (i+1)) (bI h (d (i+1)) (bI l (B (i+1)) (zyN g (zyR g (ae c) (zyN f (an f (ae (aM (ae V))) (ae V)/\zyB [] (zyB [] (zyN q.nw (zyR q.nw (au q.C) (zyN q.ng (zyR q.ng (aR q.G) (zyI q.a (zyI q.fl (zyB q.nu (zyB q.de (zyI q.top (zyB [48] (zyB [49] (zyR 5 aA (zyI (M g) (zyN f (zyI (i+1) (zyN g Q)))))))))))))))))))))))) (aa (aN d_ (i+1)) (bI (d i) (d (i+1)) (bI (B i) (B (i+1)) (zyN g (zyR g (ae c) (zyN f (an f (ae (aM (ae V))) (ae V)/\zyB [] (zyB [] (zyN q.nw (zyR q.nw (au q.C) (zyN q.ng (zyR q.ng (aR q.G) (zyI q.a (zyI q.fl (zyB q.nu (zyB q.de (zyI q.top (zyB [48] (zyB [49] (zyR 5 aA (zyI (M g) (zyN f (zyI (i+1) (zyN g Q)))))))))))))))))))))))))))))))))))) (bI (d i) a (bI (B i) b (zyB [] (zyB [] (zyN q.nw (zyR q.nw (au q.C) (zyN q.ng (zyR q.ng (aR q.G) (zyI q.a (zyI q.fl (zyB q.nu (zyB q.de (zyI q.top (zyB [48] (zyB [49] (zyR 5 aA True))))))))))))))))):=by subst_vars;cases e<;>kernel_rfl
def qB(e:Bool)(q:Query)(f:Nat)(c:Nat->Int)(d B:Int->List UInt8)(a b:List UInt8)(i:Int)(Q:Prop){g}(m:g=(c8 {nw:=q.nw,C:=λj k=>bV (au q.C j) k,ng:=q.ng,G:=λj=>q.G j,a:=q.a,fl:=q.fl,nu:=q.nu,de:=q.de,top:=q.top} (z (i+1)) (aM λi=>bif b_ i 0 then []else ae c (i-0)))){h}(n:h=(da {nw:=q.nw,C:=λj k=>bV (au q.C j) k,ng:=q.ng,G:=λj=>q.G j,a:=q.a,fl:=q.fl,nu:=q.nu,de:=q.de,top:=q.top} (z (i+1)) (aM λi=>bif b_ i 0 then []else ae c (i-0)))){l}(o:l=((a_ (q.nw=q.nw)&&true&&h_ (c_ q.nw) λi=>a_ (q.C i 0=q.C i 0)&&(a_ (q.C i 1=q.C i 1)&&(a_ (q.C i 2=q.C i 2)&&true)))&&((a_ (q.ng=q.ng)&&true&&h_ (c_ q.ng) λi=>a_ (q.G i=q.G i)&&true)&&(a_ (q.a=q.a)&&(a_ (q.fl=q.fl)&&(a_ (q.nu=q.nu)&&(a_ (q.de=q.de)&&(a_ (q.top=q.top)&&true)))))))):(kr [fS,cw,cu,tp,ud e,ue e] [] 96 12001 18 (kF e q f c d B) (λ_=>kG e q a b) (λi=>i+1) Q i)=(ah (a_ (i<M f)) (aa l (aa (aN d_ (i+1)) (aa (a_ (0<=i+1)&&a_ (i+1<=M f)) (aa (a_ (0<=i+1)&&a_ (i+1<=M f)) (aa (a_ (z (i+1)=z (i+1))&&true) (aa (a_ (z (i+1)<=f)&&true&&a_ ((0+z (i+1))*8<=140737488355328)&&true) (aa l (aa ((h_ (c_ (0+z (i+1))) λi=>bt.free (bif b_ i 0 then []else ae c (i-0)))&&a_ (z (i+1)<=0+z (i+1))) (aa ((oA [w_ q.nw 3 (au q.C),w_ q.ng 1 (aR q.G),i_ d_ q.a,i_ d_ q.fl,f_ q.nu,f_ q.de,i_ d_ q.top]&&Hl {nw:=q.nw,C:=λj k=>bV (au q.C j) k,ng:=q.ng,G:=λj=>q.G j,a:=q.a,fl:=q.fl,nu:=q.nu,de:=q.de,top:=q.top}&&bA (z (i+1)) λi=>bif b_ i 0 then []else ae c (i-0))&&bX (z (i+1)) (aM λi=>bif b_ i 0 then []else ae c (i-0))) (aa (bJ g h&&bJ (d i) (B i)) (ah (fv e (bw (ao g) (ao h) (ao (d i)) (ao (B i)))) (aa (aN d_ (i+1)) (bI g (d (i+1)) (bI h (B (i+1)) (zyN f (zyR f (ae c) (zyB [] (zyB [] (zyN q.nw (zyR q.nw (au q.C) (zyN q.ng (zyR q.ng (aR q.G) (zyI q.a (zyI q.fl (zyB q.nu (zyB q.de (zyI q.top (zyB [48] (zyB [49] (zyR 5 aA (zyI (M f) (zyI (i+1) (zyN f Q)))))))))))))))))))))) (aa (aN d_ (i+1)) (bI (d i) (d (i+1)) (bI (B i) (B (i+1)) (zyN f (zyR f (ae c) (zyB [] (zyB [] (zyN q.nw (zyR q.nw (au q.C) (zyN q.ng (zyR q.ng (aR q.G) (zyI q.a (zyI q.fl (zyB q.nu (zyB q.de (zyI q.top (zyB [48] (zyB [49] (zyR 5 aA (zyI (M f) (zyI (i+1) (zyN f Q))))))))))))))))))))))))))))))))) (bI (d i) a (bI (B i) b (zyB [] (zyB [] (zyN q.nw (zyR q.nw (au q.C) (zyN q.ng (zyR q.ng (aR q.G) (zyI q.a (zyI q.fl (zyB q.nu (zyB q.de (zyI q.top (zyB [48] (zyB [49] (zyR 5 aA True))))))))))))))))):=by subst_vars;cases e<;>kernel_rfl
def CU(e:Bool)(q:Query)(k:Nat)(L G:Nat->Int)(C:Nat->Bool)(h l:Int->Nat)(V c:Nat->Int)(g f:Nat)(d B:Int->List UInt8)(a b:List UInt8)(Q:AV->Prop):(kq [fS,cw,cu,tp,ud e,ue e] [(3001,16,pQ e q k L G C h l V c 0,pR e q g f V c),(12001,19,kD e q g f V (jb e f c) d B 0,Ro e q a b)] 96 [.agg (aY q),.ab k 3 (az L G C),.fn (cE e 97) [] [],.fn 95 [] [],.fn (cE e 98) [] [],.fn (cE e 99) [] []] Q)=(eu PP II false (aD II 96 3001) 16 (pQ e q k L G C h l V c 0) (pR e q g f V c)/\ax (l 0) 0 (ax (h 0) 0 (zyB [] (zyB [] (zyN q.nw (zyR q.nw (au q.C) (zyN q.ng (zyR q.ng (aR q.G) (zyI q.a (zyI q.fl (zyB q.nu (zyB q.de (zyI q.top (zyB [48] (zyB [49] (zyR 5 aA (zyI (M k) (ax (h 0) 0 (zyN k (zyR k (az L G C) (ax (l 0) 0 (aa (bA f (ae c)&&p_ f f&&b_ f 4611686018427387904&&true&&true) (aa ((h_ (c_ g) λi=>bt.free (ae V i))&&a_ (g<=g)) (aa (oA [w_ q.nw 3 (au q.C),w_ q.ng 1 (aR q.G),i_ d_ q.a,i_ d_ q.fl,f_ q.nu,f_ q.de,i_ d_ q.top]&&Hl {nw:=q.nw,C:=λj k=>bV (au q.C j) k,ng:=q.ng,G:=λj=>q.G j,a:=q.a,fl:=q.fl,nu:=q.nu,de:=q.de,top:=q.top}&&bA g (ae V)&&bX g (aM (ae V))) (eu PP II false (aD II 96 12001) 19 (kD e q g f V (jb e f c) d B 0) (Ro e q a b)/\bI (c8 {nw:=q.nw,C:=λj k=>bV (au q.C j) k,ng:=q.ng,G:=λj=>q.G j,a:=q.a,fl:=q.fl,nu:=q.nu,de:=q.de,top:=q.top} g (aM (ae V))) (d 0) (bI (da {nw:=q.nw,C:=λj k=>bV (au q.C j) k,ng:=q.ng,G:=λj=>q.G j,a:=q.a,fl:=q.fl,nu:=q.nu,de:=q.de,top:=q.top} g (aM (ae V))) (B 0) (zyN f (an f (ae (jb e f (aM (ae c)))) (ae (jb e f c))/\zyN g (zyR g (ae V) (zyB [] (zyB [] (zyN q.nw (zyR q.nw (au q.C) (zyN q.ng (zyR q.ng (aR q.G) (zyI q.a (zyI q.fl (zyB q.nu (zyB q.de (zyI q.top (zyB [48] (zyB [49] (zyR 5 aA (zyI (M f) (zyN g (zyN f (Q (o_ [f_ a,f_ b])))))))))))))))))))))))))))))))))))))))))))))))):=by cases e<;>kernel_rfl
def Cq(e:Bool)(q:Query)(k:Nat)(L G:Nat->Int)(c B:Int->List UInt8)(a b:List UInt8)(Q:AV->Prop):(kq [fS,cw,cu,tp,ud e,ue e] [(3001,16,kB e q k L G 0,kC e q k (wE e L G)),(12001,18,kF e q k (jb e k (wE e L G)) c B 0,kG e q a b)] 96 [.agg (aY q),.ab k 3 (az L G λ_=>false),.fn (cE e 97) [] [],.fn 95 [] [],.fn (cE e 98) [] [],.fn (cE e 99) [] []] Q)=(eu PP II false (aD II 96 3001) 16 (kB e q k L G 0) (kC e q k (wE e L G))/\zyB [] (zyB [] (zyN q.nw (zyR q.nw (au q.C) (zyN q.ng (zyR q.ng (aR q.G) (zyI q.a (zyI q.fl (zyB q.nu (zyB q.de (zyI q.top (zyB [48] (zyB [49] (zyR 5 aA (zyI (M k) (zyN k (zyR k (az L G λx=>false) (aa (bA k (ae (wE e L G))&&p_ k k&&b_ k 4611686018427387904&&true&&true) (aa (oA [w_ q.nw 3 (au q.C),w_ q.ng 1 (aR q.G),i_ d_ q.a,i_ d_ q.fl,f_ q.nu,f_ q.de,i_ d_ q.top]&&Hl {nw:=q.nw,C:=λj k=>bV (au q.C j) k,ng:=q.ng,G:=λj=>q.G j,a:=q.a,fl:=q.fl,nu:=q.nu,de:=q.de,top:=q.top}) (eu PP II false (aD II 96 12001) 18 (kF e q k (jb e k (wE e L G)) c B 0) (kG e q a b)/\bI (c8 {nw:=q.nw,C:=λj k=>bV (au q.C j) k,ng:=q.ng,G:=λj=>q.G j,a:=q.a,fl:=q.fl,nu:=q.nu,de:=q.de,top:=q.top} 0 λx=>0) (c 0) (bI (da {nw:=q.nw,C:=λj k=>bV (au q.C j) k,ng:=q.ng,G:=λj=>q.G j,a:=q.a,fl:=q.fl,nu:=q.nu,de:=q.de,top:=q.top} 0 λx=>0) (B 0) (zyN k (an k (ae (jb e k (aM (ae (wE e L G))))) (ae (jb e k (wE e L G)))/\zyB [] (zyB [] (zyN q.nw (zyR q.nw (au q.C) (zyN q.ng (zyR q.ng (aR q.G) (zyI q.a (zyI q.fl (zyB q.nu (zyB q.de (zyI q.top (zyB [48] (zyB [49] (zyR 5 aA (zyI (M k) (zyN k (Q (o_ [f_ a,f_ b])))))))))))))))))))))))))))))))))))))))):=by cases e<;>kernel_rfl
end
section
open Go.Sort Go.Shelf Go.Proofs
def dP(n)(L G)(C):an n (az L G C) (az L G C):=λ_ _ _=>⟨⟨rfl,rfl⟩,⟨rfl,rfl⟩,rfl,trivial⟩
def jB(n:Nat)(V a:Nat->Int)(i:Nat):Int:=bif b_ i n then V i else a (i-n)
def yW(n)(V a):(aM λi=>bif b_ i n then ae (aM (ae V)) i else ae a (i-n))=jB n V a:=by
 funext i
 show(match(bif b_ i n then ae (aM (ae V)) i else ae a (i-n))with|[.int d_ n]=>n|_=>0)=(bif b_ i n then V i else a (i-n))
 cases b_ i n<;>rfl
def wM(m n)(V a):bA m (λi=>bif b_ i n then ae (aM (ae V)) i else ae a (i-n))=true:=List.all_eq_true.2 λi _=>by
 show(match(bif b_ i n then ae (aM (ae V)) i else ae a (i-n))with|[.int d_ _]=>true|_=>false)=true
 cases b_ i n<;>rfl
def CK(m n)(V a):((c_ m).all λi=>bt.free (bif b_ i n then ae (aM (ae V)) i else ae a (i-n)))=true:=List.all_eq_true.2 λi _=>by
 show bt.free (bif b_ i n then ae (aM (ae V)) i else ae a (i-n))=true
 cases b_ i n<;>rfl
def wN(a):(aM λi=>bif b_ i 0 then []else ae a (i-0))=a:=by
 rfl
def ug(m)(a):bA m (λi=>bif b_ i 0 then []else ae a (i-0))=true:=List.all_eq_true.2 λi _=>by
 rfl
def yX(m)(a):((c_ m).all λi=>bt.free (bif b_ i 0 then []else ae a (i-0)))=true:=List.all_eq_true.2 λi _=>by
 rfl
def dD{m n W}(h:bX n W=true)(a:m<=n):bX m W=true:=by
 obtain⟨b,c⟩:=dW h
 unfold bX
 rw[kV O,m_,s_]
 grind
abbrev qX(q:Query):Query:=⟨q.nw,λj k=>bV (au q.C j) k,q.ng,λj=>q.G j,q.a,q.fl,q.nu,q.de,q.top⟩
def oJ(q)(n)(W):c8 ⟨q.nw,λj k=>bV (au q.C j) k,q.ng,λj=>q.G j,q.a,q.fl,q.nu,q.de,q.top⟩ n W=c8 q n W:=rfl
def oK(q)(n)(W):da ⟨q.nw,λj k=>bV (au q.C j) k,q.ng,λj=>q.G j,q.a,q.fl,q.nu,q.de,q.top⟩ n W=da q n W:=rfl
def rQ(q):Hl ⟨q.nw,λj k=>bV (au q.C j) k,q.ng,λj=>q.G j,q.a,q.fl,q.nu,q.de,q.top⟩=Hl q:=rfl
def jt{q:Query}(b:aI 3 q.nw (au q.C)=true)(c:aI 1 q.ng (aR q.G)=true):oA [.ab q.nw 3 (au q.C),.ab q.ng 1 (aR q.G),.int d_ q.a,.int d_ q.fl,.str q.nu,.str q.de,.int d_ q.top]=true:=by
 show(aI 3 q.nw (au q.C)&&aI 1 q.ng (aR q.G))=true
 rw[b,c];rfl
def G1(q:Query):((a_ (q.nw=q.nw)&&true&&(c_ q.nw).all λi=>a_ (q.C i 0=q.C i 0)&&(a_ (q.C i 1=q.C i 1)&&(a_ (q.C i 2=q.C i 2)&&true)))&&((a_ (q.ng=q.ng)&&true&&(c_ q.ng).all λi=>a_ (q.G i=q.G i)&&true)&&(a_ (q.a=q.a)&&(a_ (q.fl=q.fl)&&(a_ (q.nu=q.nu)&&(a_ (q.de=q.de)&&(a_ (q.top=q.top)&&true)))))))=true:=zA
def Aa(e)(q)(k)(L G)(C)(b c)(V a)(g j)(i)(m:Nat)(hi:i=(m:Int))(n:m<k)(o:k<=1000)(p:b i<=1000)(r:c i<=1000)
  (ht:C m=true->b (i+1)=b i+1/\V (b i)=wE e L G m/\c (i+1)=c i) (l:C m=false->c (i+1)=c i+1/\a (c i)=wE e L G m/\b (i+1)=b i) (Q) (hQ:Q):
  kr [fS,cw,cu,tp,ud e,ue e] [] 96 3001 16 (pQ e q k L G C b c V a) (λ_=>pR e q g j V a) (λi=>i+1) Q i:=by
 rw[uf]
 have e1:z i=m:=O
 have s:M k=(k:Int):=rfl
 rw[e1]
 have d:aN d_ (i+1)=true:=aq O O
 refine Zg (λ_=>?_) O
 refine cC _ _ Y ?_
 refine Zh (λh=>?_) λh=>?_
 ·obtain⟨k1,f,k2⟩:=ht h
  have k1:=k1.symm
  have k2:=k2.symm
  have rows:=ey V (b i) (wE e L G m) f.symm
  refine cC _ _ Y (cC _ _ d ?_)
  exact zX
 ·obtain⟨k1,f,k2⟩:=l h
  have k1:=k1.symm
  have k2:=k2.symm
  have rows:=ey a (c i) (wE e L G m) f.symm
  refine cC _ _ Y (cC _ _ d ?_)
  exact zX
def CL(e)(q)(k:Nat)(L G)(C)(b c)(V a)(d f)(i)(hi:i=(k:Int))(k1:b i=d)(k2:c i=f)(Q):
  kr [fS,cw,cu,tp,ud e,ue e] [] 96 3001 16 (pQ e q k L G C b c V a) (λ_=>pR e q d f V a) (λi=>i+1) Q i:=by
 rw[uf]
 have g:M k=(k:Int):=rfl
 have hQ:=trivial
 have rows:=trivial
 refine Zg O λ_=>?_
 exact zX
def xR(e)(q)(k)(L G)(i)(m:Nat)(hi:i=(m:Int))(c:m<k)(d:k<=1000)(Q)(hQ:Q):
  kr [fS,cw,cu,tp,ud e,ue e] [] 96 3001 16 (kB e q k L G) (λ_=>kC e q k (wE e L G)) (λi=>i+1) Q i:=by
 rw[sJ]
 have e1:z i=m:=O
 have b:z (i+1)=m+1:=O
 have f:M k=(k:Int):=rfl
 rw[e1,b]
 have a:aN d_ (i+1)=true:=aq O O
 have k1:=trivial
 have k2:=trivial
 have rows:=ey (wE e L G) m (wE e L G m) A
 refine Zg (λ_=>?_) O
 refine cC _ _ Y (cC _ _ Y (cC _ _ a ?_))
 exact zX
def AW(e)(q)(k:Nat)(L G)(i)(hi:i=(k:Int))(Q):
  kr [fS,cw,cu,tp,ud e,ue e] [] 96 3001 16 (kB e q k L G) (λ_=>kC e q k (wE e L G)) (λi=>i+1) Q i:=by
 rw[sJ]
 have a:M k=(k:Int):=rfl
 have k1:z i=k:=O
 have k2:=trivial
 have hQ:=trivial
 have rows:=trivial
 rw[k1]
 refine Zg O λ_=>?_
 exact zX
def xW(e)(q)(f g)(V c)(d B)(a b)(i)(m:Nat)(hi:i=(m:Int))(w:m<g)(o:0<f)(p:aI 3 q.nw (au q.C)=true)(r:aI 1 q.ng (aR q.G)=true)(hq:Hl q=true)(n:bX (f+g) (jB f V c)=true)(s:bJ (d i) (B i)=true)
  (t:fv e (bw (ao (c8 q (f+(m+1)) (jB f V c))) (ao (da q (f+(m+1)) (jB f V c))) (ao (d i)) (ao (B i)))=true->d (i+1)=c8 q (f+(m+1)) (jB f V c)/\B (i+1)=da q (f+(m+1)) (jB f V c)) (hn:fv e (bw (ao (c8 q (f+(m+1)) (jB f V c))) (ao (da q (f+(m+1)) (jB f V c))) (ao (d i)) (ao (B i)))=false->d (i+1)=d i/\B (i+1)=B i) (Q) (hQ:Q):
  kr [fS,cw,cu,tp,ud e,ue e] [] 96 12001 19 (kD e q f g V c d B) (λ_=>Ro e q a b) (λi=>i+1) Q i:=by
 obtain⟨x,_⟩:=dW n
 rw[uc _ _ _ _ _ _ _ _ _ _ _ _ A A A]
 have u:z (i+1)=m+1:=O
 have y:M g=(g:Int):=rfl
 have k:=dD n (O:f+(m+1)<=f+g)
 have v:=vb k hq
 have j:aN d_ (i+1)=true:=aq O O
 have l:(a_ (0<=i+1)&&a_ (i+1<=M g))=true:=by simp only[bf,bn];omega
 have k1:=trivial
 have k2:=trivial
 have rows:=trivial
 rw[u,yW,wM,CK,G1,jt p r,rQ,hq,oJ,oK,k,v,s]
 refine Zg (λ_=>?_) O
 refine cC _ _ (by rw[eV o,kV (dw f),dy,kV O];rfl) ?_
 refine cC _ _ A (cC _ _ j (cC _ _ l (cC _ _ l (cC _ _ zA (cC _ _ Y (cC _ _ A (cC _ _ zA (cC _ _ A (cC _ _ A ?_)))))))))
 refine Zh (λh=>?_) λh=>?_
 ·have hA:=t h
  refine cC _ _ j ?_
  exact zY
 ·have hA:=hn h
  refine cC _ _ j ?_
  exact zY
def AX(e)(q)(g f:Nat)(V c)(d B)(a b)(i)(hi:i=(f:Int))(hA:a=d i/\b=B i)(Q):
  kr [fS,cw,cu,tp,ud e,ue e] [] 96 12001 19 (kD e q g f V c d B) (λ_=>Ro e q a b) (λi=>i+1) Q i:=by
 rw[uc _ _ _ _ _ _ _ _ _ _ _ _ A A A]
 have h:M f=(f:Int):=rfl
 have hQ:=trivial
 have k1:=trivial
 have k2:=trivial
 have rows:=trivial
 refine Zg O λ_=>?_
 exact zY
def wK(e)(q)(f)(c)(d B)(a b)(i)(m:Nat)(hi:i=(m:Int))(u:m<f)(n:aI 3 q.nw (au q.C)=true)(o:aI 1 q.ng (aR q.G)=true)(hq:Hl q=true)(l:bX (f) c=true)(p:bJ (d i) (B i)=true)
  (r:fv e (bw (ao (c8 q (m+1) c)) (ao (da q (m+1) c)) (ao (d i)) (ao (B i)))=true->d (i+1)=c8 q (m+1) c/\B (i+1)=da q (m+1) c) (hn:fv e (bw (ao (c8 q (m+1) c)) (ao (da q (m+1) c)) (ao (d i)) (ao (B i)))=false->d (i+1)=d i/\B (i+1)=B i) (Q) (hQ:Q):
  kr [fS,cw,cu,tp,ud e,ue e] [] 96 12001 18 (kF e q f c d B) (λ_=>kG e q a b) (λi=>i+1) Q i:=by
 obtain⟨v,_⟩:=dW l
 rw[qB _ _ _ _ _ _ _ _ _ _ A A A]
 have s:z (i+1)=m+1:=O
 have w:M f=(f:Int):=rfl
 have j:=dD l (O:m+1<=f)
 have t:=vb j hq
 have g:aN d_ (i+1)=true:=aq O O
 have k:(a_ (0<=i+1)&&a_ (i+1<=M f))=true:=by simp only[bf,bn];omega
 have k1:=trivial
 have k2:=trivial
 have rows:=trivial
 rw[s,wN,ug,yX,G1,jt n o,rQ,hq,oJ,oK,j,t,p]
 refine Zg (λ_=>?_) O
 refine cC _ _ A (cC _ _ g (cC _ _ k (cC _ _ k (cC _ _ zA (cC _ _ Y (cC _ _ A (cC _ _ zA (cC _ _ A (cC _ _ A ?_)))))))))
 refine Zh (λh=>?_) λh=>?_
 ·have hA:=r h
  refine cC _ _ g ?_
  exact zY
 ·have hA:=hn h
  refine cC _ _ g ?_
  exact zY
def AE(e)(q)(f:Nat)(c)(d B)(a b)(i)(hi:i=(f:Int))(hA:a=d i/\b=B i)(Q):
  kr [fS,cw,cu,tp,ud e,ue e] [] 96 12001 18 (kF e q f c d B) (λ_=>kG e q a b) (λi=>i+1) Q i:=by
 rw[qB _ _ _ _ _ _ _ _ _ _ A A A]
 have g:M f=(f:Int):=rfl
 have hQ:=trivial
 have k1:=trivial
 have k2:=trivial
 have rows:=trivial
 refine Zg O λ_=>?_
 exact zY
end
section
open Go.Sort Go.Shelf Go.Proofs
def aP(p:Nat->Bool)(k:Nat):Nat:=((c_ k).filter p).length
def bS(p:Nat->Bool)(W:Nat->Int)(k j:Nat):Int:=(((c_ k).filter p).map W).getD j 0
def iE{p m}(h:p m=true):aP p (m+1)=aP p m+1:=by
 unfold aP;rw[l_,n_,y_];simp[h]
def kO{p m}(h:p m=false):aP p (m+1)=aP p m:=by
 unfold aP;rw[l_,n_,y_];simp[h]
def jV(p)(k):aP p k<=k:=by
 unfold aP
 grind
def mU(p):∀k,aP p k+aP (λi=>!p i) k=k
 |0=>rfl
 |k+1=>by
  have a:=mU p k
  cases h:p k with
  |true=>rw[iE h,kO (p:=λi=>!p i) Y];omega
  |false=>rw[kO h,iE (p:=λi=>!p i) Y];omega
def rR{p W k m}(a:m<k)(h:p m=true):bS p W k (aP p m)=W m:=by
 unfold bS aP
 obtain⟨r,rfl⟩:∃r,k=m+(r+1):=⟨k-m-1,O⟩
 rw[List.range_add,List.range_succ_eq_map,List.map_cons,n_,List.filter_cons,Nat.add_zero,h]
 simp
def Ny{p W k j}(a:j<aP p k):∃m,m<k/\bS p W k j=W m:=by
 unfold bS
 rw[k_,mo (by simpa [aP]using a)]
 have:(((c_ k).filter p).map W)[j]'(by simpa [aP]using a)∈((c_ k).filter p).map W:=r_ _
 grind
def CQ{p:Nat->Bool}{k:Nat}(h:(c_ k).any p=true):0<aP p k:=by
 obtain⟨m,a,b⟩:=List.any_eq_true.1 h
 exact List.length_pos_iff.2 (List.ne_nil_of_mem (List.mem_filter.2 ⟨a,b⟩))
def Fp{k W i}(hi:i<k):∃j,j<k/\cK k W i=W j:=by
 have a:=nR (ltOf pP) k W
 have:cK k W i∈dp (ltOf pP) k W:=by
  unfold cK
  rw[k_,mo O]
  exact r_ _
 unfold dp at this
 rw[x_]at this
 grind
def fA(W:Nat->Int)(k:Nat):Prop := ∀i,i<k->0<=W i/\W i<=4398046511104
def xq{k W}(a:k<=1000)(h:fA W k):bX k W=true:=by
 unfold bX
 rw[kV a,m_,s_]
 intro i hi
 obtain⟨b,c⟩:=h i (List.mem_range.1 hi)
 grind
def fR{p W k}(h:fA W k):fA (bS p W k) (aP p k):=λj a=>by
 obtain⟨m,b,c⟩:=Ny (W:=W) a
 rw[c];exact h m b
def pI{V a n m}(b:fA V n)(c:fA a m):fA (jB n V a) (n+m):=λi hi=>by
 show 0<=(bif b_ i n then V i else a (i-n))/\(bif b_ i n then V i else a (i-n))<=_
 by_cases h:i<n
 ·rw[eV h];exact b i h
 ·rw[js h];exact c (i-n) O
def aS(better:Int->Bool)(R:Nat->List UInt8×List UInt8):Nat->List UInt8×List UInt8
 |0=>R 0
 |i+1=>match better (bw (ao (R (i+1)).1) (ao (R (i+1)).2) (ao (aS better R i).1) (ao (aS better R i).2))with
  |true=>R (i+1)
  |false=>aS better R i
def eK{better R}:∀i,∃j,j<=i/\aS better R i=R j
 |0=>⟨0,dw _,rfl⟩
 |i+1=>by
  obtain⟨j,a,e⟩:=eK (better:=better) (R:=R) i
  show ∃j,j<=i+1/\(match better _ with|true=>R (i+1)|false=>aS better R i)=R j
  grind
def ru(q:Query)(b:Nat)(V a:Nat->Int):Nat->List UInt8×List UInt8
 |0=>(c8 q b V,da q b V)
 |i+1=>(c8 q (b+(i+1)) (jB b V a),da q (b+(i+1)) (jB b V a))
def br(q:Query)(a:Nat->Int):Nat->List UInt8×List UInt8
 |0=>(c8 q 0 λ_=>0,da q 0 λ_=>0)
 |i+1=>(c8 q (i+1) a,da q (i+1) a)
def eO(q:Query)(k:Nat)(W:Nat->Int)(C:Nat->Bool):List UInt8×List UInt8:=match(c_ k).any C with
 |true=>aS (λc=>a_ (c<0)) (ru q (aP C k) (bS C W k) (bQ (aP (λi=>!C i) k) (bS (λi=>!C i) W k))) (aP (λi=>!C i) k)
 |false=>aS (λc=>a_ (c<0)) (br q (bQ k W)) k
def dQ(q:Query)(k:Nat)(W:Nat->Int)(C:Nat->Bool):List UInt8×List UInt8:=match(c_ k).any C with
 |true=>aS (λc=>a_ (c>0)) (ru q (aP C k) (bS C W k) (cK (aP (λi=>!C i) k) (bS (λi=>!C i) W k))) (aP (λi=>!C i) k)
 |false=>aS (λc=>a_ (c>0)) (br q (cK k W)) k
def CM(e:Bool)(q:Query)(k:Nat)(W:Nat->Int)(C:Nat->Bool):List UInt8×List UInt8:=match(c_ k).any C with
 |true=>aS (fv e) (ru q (aP C k) (bS C W k) (jb e (aP (λi=>!C i) k) (bS (λi=>!C i) W k))) (aP (λi=>!C i) k)
 |false=>aS (fv e) (br q (jb e k W)) k
def kP{W k}(h:fA W k):fA (bQ k W) k:=λi hi=>by
 obtain⟨j,a,e⟩:=qI (W:=W) hi
 rw[e];exact h j a
def kQ{W k}(h:fA W k):fA (cK k W) k:=λi hi=>by
 obtain⟨j,a,e⟩:=Fp (W:=W) hi
 rw[e];exact h j a
def uz{e k W}(h:fA W k):fA (jb e k W) k:=by
 cases e with
 |true=>exact kP h
 |false=>exact kQ h
def AF(e)(q)(k)(L G)(C)(d:k<=1000):eu PP II false (aD II 96 3001) 16 (pQ e q k L G C (λi=>aP C i.toNat) (λi=>aP (λi=>!C i) i.toNat) (bS C (wE e L G) k) (bS (λi=>!C i) (wE e L G) k) 0) (pR e q (aP C k) (aP (λi=>!C i) k) (bS C (wE e L G) k) (bS (λi=>!C i) (wE e L G) k)):=by
 refine eu.wL [fS,cw,cu,tp,ud e,ue e] (n:=k) A λi hi Q hQ=>?_
 have e1:((i:Int)).toNat=i:=O
 have b:((i:Int)+1).toNat=i+1:=O
 by_cases a:i<k
 ·have l1:=jV C i
  have l2:=jV (λi=>!C i) i
  refine Aa e q k L G C _ _ _ _ _ _ (i:Int) i A a d ?_ ?_ (λh=>?_) (λh=>?_) _ (hQ a)
  grind
  grind
  ·show aP C ((i:Int)+1).toNat=aP C ((i:Int)).toNat+1/\bS C (wE e L G) k (aP C ((i:Int)).toNat)=wE e L G i/\aP (λi=>!C i) ((i:Int)+1).toNat=aP (λi=>!C i) ((i:Int)).toNat
   rw[e1,b]
   exact⟨iE h,rR a h,kO (p:=λi=>!C i) Y⟩
  ·have c:(λi=>!C i) i=true:=by show(!C i)=true;rw[h];rfl
   show aP (λi=>!C i) ((i:Int)+1).toNat=aP (λi=>!C i) ((i:Int)).toNat+1/\bS (λi=>!C i) (wE e L G) k (aP (λi=>!C i) ((i:Int)).toNat)=wE e L G i/\aP C ((i:Int)+1).toNat=aP C ((i:Int)).toNat
   rw[e1,b]
   exact⟨iE c,rR a c,kO h⟩
 ·have hi:i=k:=by omega
  subst hi
  refine CL e q i L G C _ _ _ _ _ _ (i:Int) A ?_ ?_ _
  all_goals rfl
def xX(e)(q)(k)(L G)(b:k<=1000):eu PP II false (aD II 96 3001) 16 (kB e q k L G 0) (kC e q k (wE e L G)):=by
 refine eu.wL [fS,cw,cu,tp,ud e,ue e] (n:=k) A λi hi Q hQ=>?_
 by_cases a:i<k
 ·exact xR e q k L G (i:Int) i A a b _ (hQ a)
 ·have hi:i=k:=by omega
  subst hi
  exact AW e q i L G (i:Int) A _
def AQ(e)(q)(b c)(V a)(g:0<b)(k:aI 3 q.nw (au q.C)=true)(l:aI 1 q.ng (aR q.G)=true)(hq:Hl q=true)(m:b+c<=1000)(hV:fA V b)(o:fA a c):
  eu PP II false (aD II 96 12001) 19 (kD e q b c V a (λi=>(aS (fv e) (ru q b V a) i.toNat).1) (λi=>(aS (fv e) (ru q b V a) i.toNat).2) 0) (Ro e q (aS (fv e) (ru q b V a) c).1 (aS (fv e) (ru q b V a) c).2):=by
 have f:=xq m (pI hV o)
 have p:∀i,i<=c->bJ (ru q b V a i).1 (ru q b V a i).2=true:=λi hi=>by
  cases i with
  |zero=>exact vb (xq O hV) hq
  |succ i=>exact vb (dD f O) hq
 have r:∀i,i<=c->bJ (aS (fv e) (ru q b V a) i).1 (aS (fv e) (ru q b V a) i).2=true:=λi hi=>by
  obtain⟨j,s,e⟩:=eK (better:=fv e) (R:=ru q b V a) i
  grind
 have t:∀i,(aS (fv e) (ru q b V a) (i+1))=match fv e (bw (ao (c8 q (b+(i+1)) (jB b V a))) (ao (da q (b+(i+1)) (jB b V a))) (ao (aS (fv e) (ru q b V a) i).1) (ao (aS (fv e) (ru q b V a) i).2))with|true=>(c8 q (b+(i+1)) (jB b V a),da q (b+(i+1)) (jB b V a))|false=>aS (fv e) (ru q b V a) i:=λi=>rfl
 generalize aS (fv e) (ru q b V a)=Z at*
 refine eu.wL [fS,cw,cu,tp,ud e,ue e] (n:=c) A λi hi Q hQ=>?_
 have e1:((i:Int)).toNat=i:=O
 have u:((i:Int)+1).toNat=i+1:=O
 by_cases d:i<c
 ·refine xW e q b c V a _ _ _ _ (i:Int) i A d g k l hq f ?_ (λh=>?_) (λh=>?_) _ (hQ d)
  all_goals grind
 ·have hi:i=c:=by omega
  subst hi
  refine AX e q b i V a _ _ _ _ (i:Int) A ?_ _
  simp
def yy(e)(q)(b)(a)(f:aI 3 q.nw (au q.C)=true)(g:aI 1 q.ng (aR q.G)=true)(hq:Hl q=true)(l:b<=1000)(m:fA a b):
  eu PP II false (aD II 96 12001) 18 (kF e q b a (λi=>(aS (fv e) (br q a) i.toNat).1) (λi=>(aS (fv e) (br q a) i.toNat).2) 0) (kG e q (aS (fv e) (br q a) b).1 (aS (fv e) (br q a) b).2):=by
 have d:=xq l m
 have o:∀i,i<=b->bJ (br q a i).1 (br q a i).2=true:=λi hi=>by
  cases i with
  |zero=>exact vb (k:=0) (W:=λ_=>0) A hq
  |succ i=>exact vb (dD d O) hq
 have p:∀i,i<=b->bJ (aS (fv e) (br q a) i).1 (aS (fv e) (br q a) i).2=true:=λi hi=>by
  obtain⟨j,r,e⟩:=eK (better:=fv e) (R:=br q a) i
  grind
 have s:∀i,(aS (fv e) (br q a) (i+1))=match fv e (bw (ao (c8 q (i+1) a)) (ao (da q (i+1) a)) (ao (aS (fv e) (br q a) i).1) (ao (aS (fv e) (br q a) i).2))with|true=>(c8 q (i+1) a,da q (i+1) a)|false=>aS (fv e) (br q a) i:=λi=>rfl
 generalize aS (fv e) (br q a)=Z at*
 refine eu.wL [fS,cw,cu,tp,ud e,ue e] (n:=b) A λi hi Q hQ=>?_
 have e1:((i:Int)).toNat=i:=O
 have t:((i:Int)+1).toNat=i+1:=O
 by_cases c:i<b
 ·refine wK e q b a _ _ _ _ (i:Int) i A c f g hq d ?_ (λh=>?_) (λh=>?_) _ (hQ c)
  all_goals grind
 ·have hi:i=b:=by omega
  subst hi
  refine AE e q i a _ _ _ _ (i:Int) A ?_ _
  simp
end
section
open Go.Sort Go.Shelf Go.Proofs
def G2(x:List UInt8×List UInt8)(σ):AV.le σ (.agg [.str x.1,.str x.2]) (.agg [.str x.1,.str x.2]):=⟨rfl,rfl,trivial⟩
def qi(n)(W):((c_ n).all λi=>bt.free (ae W i))=true:=List.all_eq_true.2 λ_ _=>rfl
def jP(W):aM (ae W)=W:=rfl
def AU(e){q k L G C}(b:aI 3 q.nw (au q.C)=true)(d:aI 1 q.ng (aR q.G)=true)(hq:Hl q=true)(f:k<=1000)(g:fA (wE e L G) k):
  af PP II 96 [.agg (aY q),.ab k 3 (az L G C),.fn (cE e 97) [] [],.fn 95 [] [],.fn (cE e 98) [] [],.fn (cE e 99) [] []] HR (.ret (.agg [.str (CM e q k (wE e L G) C).1,.str (CM e q k (wE e L G) C).2]) HR):=by
 unfold CM
 have fin:=G2
 cases n:(c_ k).any C with
 |true=>
  have n0:=CQ n
  have B:=mU C k
  have hV:=fR (p:=C) g
  have h:=fR (p:=λi=>!C i) g
  have j:=AF e q k L G C f
  have a:=AQ e q (aP C k) (aP (λi=>!C i) k) (bS C (wE e L G) k) (jb e (aP (λi=>!C i) k) (bS (λi=>!C i) (wE e L G) k)) n0 b d hq O hV (uz h)
  refine qh (ks:=[fS,cw,cu,tp,ud e,ue e]) (T:=[(3001,16,pQ e q k L G C (λi=>aP C i.toNat) (λi=>aP (λi=>!C i) i.toNat) (bS C (wE e L G) k) (bS (λi=>!C i) (wE e L G) k) 0,pR e q (aP C k) (aP (λi=>!C i) k) (bS C (wE e L G) k) (bS (λi=>!C i) (wE e L G) k)),(12001,19,kD e q (aP C k) (aP (λi=>!C i) k) (bS C (wE e L G) k) (jb e (aP (λi=>!C i) k) (bS (λi=>!C i) (wE e L G) k)) (λi=>(aS (fv e) (ru q (aP C k) (bS C (wE e L G) k) (jb e (aP (λi=>!C i) k) (bS (λi=>!C i) (wE e L G) k))) i.toNat).1) (λi=>(aS (fv e) (ru q (aP C k) (bS C (wE e L G) k) (jb e (aP (λi=>!C i) k) (bS (λi=>!C i) (wE e L G) k))) i.toNat).2) 0,Ro e q (aS (fv e) (ru q (aP C k) (bS C (wE e L G) k) (jb e (aP (λi=>!C i) k) (bS (λi=>!C i) (wE e L G) k))) (aP (λi=>!C i) k)).1 (aS (fv e) (ru q (aP C k) (bS C (wE e L G) k) (jb e (aP (λi=>!C i) k) (bS (λi=>!C i) (wE e L G) k))) (aP (λi=>!C i) k)).2)]) ?_
  rw[CU]
  have a1:(bA (aP (λi=>!C i) k) (ae (bS (λi=>!C i) (wE e L G) k))&&p_ (aP (λi=>!C i) k) (aP (λi=>!C i) k)&&b_ (aP (λi=>!C i) k) 4611686018427387904&&true&&true)=true:=by
   rw[dy,ni,eV O];rfl
  have a2:(((c_ (aP C k)).all λi=>bt.free (ae (bS C (wE e L G) k) i))&&a_ (aP C k<=aP C k))=true:=by rw[qi,bW (dw _)];rfl
  have o:=xq O hV
  have r:aP C (0:Int).toNat=0:=rfl
  have s:aP (λi=>!C i) (0:Int).toNat=0:=rfl
  have l:aS (fv e) (ru q (aP C k) (bS C (wE e L G) k) (jb e (aP (λi=>!C i) k) (bS (λi=>!C i) (wE e L G) k))) (0:Int).toNat=(c8 q (aP C k) (bS C (wE e L G) k),da q (aP C k) (bS C (wE e L G) k)):=rfl
  rw[jP,jP,jt b d,rQ,hq,oJ,oK]
  simp only[l]
  generalize aS (fv e) (ru q (aP C k) (bS C (wE e L G) k) (jb e (aP (λi=>!C i) k) (bS (λi=>!C i) (wE e L G) k)))=Z at*
  generalize aP (λi=>!C i) k=t at*
  generalize aP C k=m at*
  have u:(true&&true&&bA m (ae (bS C (wE e L G) k))&&bX m (bS C (wE e L G) k))=true:=by rw[dy,o];rfl
  have hQ:=fin (Z t)
  repeat' (with_reducible first|refine Zf A ?_|refine YG A ?_|refine Zi A ?_|refine And.intro ?_ ?_|exact bL _ _|exact bC _ _|exact bO _ _|exact aZ|exact dP _ _ _ _|exact j|exact a|exact hQ|refine YG r ?_|refine YG s ?_|refine cC _ _ a1 ?_|refine cC _ _ a2 ?_|refine cC _ _ u ?_)
 |false=>
  have v:∀i,i<k->C i=false:=ZD
  have h:=uz (e:=e) g
  have j:=xX e q k L G f
  have a:=yy e q k (jb e k (wE e L G)) b d hq f h
  have key:af PP II 96 [.agg (aY q),.ab k 3 (az L G λ_=>false),.fn (cE e 97) [] [],.fn 95 [] [],.fn (cE e 98) [] [],.fn (cE e 99) [] []] HR (.ret (.agg [.str (aS (fv e) (br q (jb e k (wE e L G))) k).1,.str (aS (fv e) (br q (jb e k (wE e L G))) k).2]) HR):=by
   refine qh (ks:=[fS,cw,cu,tp,ud e,ue e]) (T:=[(3001,16,kB e q k L G 0,kC e q k (wE e L G)),(12001,18,kF e q k (jb e k (wE e L G)) (λi=>(aS (fv e) (br q (jb e k (wE e L G))) i.toNat).1) (λi=>(aS (fv e) (br q (jb e k (wE e L G))) i.toNat).2) 0,kG e q (aS (fv e) (br q (jb e k (wE e L G))) k).1 (aS (fv e) (br q (jb e k (wE e L G))) k).2)]) ?_
   rw[Cq]
   have a1:(bA k (ae (wE e L G))&&p_ k k&&b_ k 4611686018427387904&&true&&true)=true:=by
    rw[dy,ni,eV O];rfl
   have l:aS (fv e) (br q (jb e k (wE e L G))) (0:Int).toNat=(c8 q 0 (λ_=>0),da q 0 (λ_=>0)):=rfl
   rw[jP,jt b d,rQ,hq,oJ,oK]
   simp only[l]
   generalize aS (fv e) (br q (jb e k (wE e L G)))=Z at*
   have hQ:=fin (Z k)
   repeat' (first|with_reducible refine Zf A ?_|with_reducible refine YG A ?_|with_reducible refine Zi A ?_|with_reducible refine And.intro ?_ ?_|with_reducible exact bL _ _|with_reducible exact bC _ _|with_reducible exact bO _ _|with_reducible exact aZ|with_reducible exact dP _ _ _ _|with_reducible exact j|with_reducible exact a|with_reducible exact hQ|with_reducible refine cC _ _ a1 ?_|with_reducible refine cC _ _ A ?_|refine cC _ _ A ?_)
  intro c ρ w vs hG x y
  refine key c ρ w vs hG (aU.tQ (show bt.le _ [.agg (aY q),.ab k 3 (az L G C),.fn (cE e 97) [] [],.fn 95 [] [],.fn (cE e 98) [] [],.fn (cE e 99) [] []] [.agg (aY q),.ab k 3 (az L G λ_=>false),.fn (cE e 97) [] [],.fn 95 [] [],.fn (cE e 98) [] [],.fn (cE e 99) [] []]from⟨⟨⟨rfl,rfl,λi hi=>jq _ _ _⟩,⟨rfl,rfl,λi hi=>pF _ _ _⟩,⟨rfl,rfl⟩,⟨rfl,rfl⟩,rfl,rfl,⟨rfl,rfl⟩,trivial⟩,⟨rfl,rfl,λi hi=>⟨⟨rfl,rfl⟩,⟨rfl,rfl⟩,v i hi,trivial⟩⟩,⟨rfl,trivial,trivial⟩,⟨rfl,trivial,trivial⟩,⟨rfl,trivial,trivial⟩,⟨rfl,trivial,trivial⟩,trivial⟩) x) y
def Nz{q k L G C}(a:aI 3 q.nw (au q.C)=true)(b:aI 1 q.ng (aR q.G)=true)(hq:Hl q=true)(c:k<=1000)(d:fA L k):
  af PP II 96 [.agg (aY q),.ab k 3 (az L G C),.fn 97 [] [],.fn 95 [] [],.fn 98 [] [],.fn 99 [] []] HR (.ret (.agg [.str (eO q k L C).1,.str (eO q k L C).2]) HR):=AU true a b hq c d
def NA{q k L G C}(a:aI 3 q.nw (au q.C)=true)(b:aI 1 q.ng (aR q.G)=true)(hq:Hl q=true)(c:k<=1000)(d:fA G k):
  af PP II 96 [.agg (aY q),.ab k 3 (az L G C),.fn 100 [] [],.fn 95 [] [],.fn 101 [] [],.fn 102 [] []] HR (.ret (.agg [.str (dQ q k G C).1,.str (dQ q k G C).2]) HR):=AU false a b hq c d
end
end
end Go.Sx
