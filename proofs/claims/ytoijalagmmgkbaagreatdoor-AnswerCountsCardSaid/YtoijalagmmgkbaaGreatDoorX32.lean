/- The proof of a statement of the seat, part 32. -/
import Derived.Test.YtoijalagmmgkbaaGreatDoorX29
import Derived.Test.YtoijalagmmgkbaaGreatDoorX31
import Derived.Test.YtoijalagmmgkbaaGreatDoorX30
set_option linter.all false
set_option linter.defProp false
set_option maxRecDepth 1000000
namespace Go.Sx
open Go
open Int renaming ofNat->M,toNat->a_,tdiv->k_,mul_le_mul_of_nonneg_right->u_,natCast_nonneg->E_,le_refl->M_
open Decidable renaming decide->z
open Nat renaming blt->b_,gcd->h_,ble->p_,beq->s_,one_pos->w_,blt_eq->D_,gcd_dvd_right->F_,div_le_self->H_,zero_add->J_
open Go.IntKind renaming i64->c_
open List renaming range->d_,all->g_,getElem?_append_left->i_,getElem?_append_right->l_,take->n_,drop->o_,getElem?_eq_none->q_,all_eq_true->t_,getD_eq_getElem?_getD->y_,getElem?_toArray->B_,ext_getElem?->C_,range_succ->G_,length->K_
open AV renaming str->e_,int->f_,ab->m_,agg->r_
open AH renaming get_set_same->j_,bk->N_
open Tr renaming ofList->v_
open Bool renaming or_eq_true->x_,true_and->z_
noncomputable section
section
open Go.Proofs Go.Sort
def AL{α:Type}[Inhabited α]{enc:α->Value}{d:Array α}{vs:List Value}(hl:vs.length=d.size)(rest:List Value):putCells enc 0 d (vs++rest).toArray=(d.toList.map enc++rest).toArray:=by
 have a:(d.toList.map enc).length=d.size:=zA
 apply Array.ext_getElem?
 intro k
 simp only[putCells,Array.getElem?_mapIdx,B_]
 by_cases hk:k<d.size
 ·rw[i_ O,i_ O]
  have:k<vs.length:=O
  simp[hk,this]
 ·rw[l_ O,l_ O,hl,a]
  cases rest[k-d.size]? with
  |none=>rfl
  |some x=>simp[hk]
def mT{ρ:Env}{f:Nat->List AV}(b:∀i,(f i).length=1):∀{n:Nat}{vs:List Value},aU ρ (rowsOf n f) vs->vs.length=n/\∀i,i<n->∃v,vs[i]? =Option.some v/\aU ρ (f i) [v]
 |0,vs,h=>by
  have h:vs=[]:=h
  subst h
  exact⟨rfl,λi hi=>absurd hi (lZ _)⟩
 |n+1,vs,h=>by
  rw[show rowsOf (n+1) f=rowsOf n f++f n by simp[rowsOf,G_]]at h
  obtain⟨us,ws,rfl,k1,k2⟩:=oF h
  obtain⟨c,d⟩:=mT b k1
  have e:ws.length=1:=by rw[<-k2.length_eq,b]
  obtain⟨v,rfl⟩:=List.length_eq_one_iff.1 e
  refine⟨by simp[c],λi hi=>?_⟩
  by_cases a:i<n
  ·obtain⟨u,g1,g2⟩:=d i a
   exact⟨u,by rw[i_ O];exact g1,g2⟩
  ·have:i=n:=by omega
   subst this
   exact⟨v,by rw[l_ O,c,Nat.sub_self];rfl,k2⟩
def oI{ρ:Env}{f:Nat->List AV}:∀{n:Nat}{vs:List Value},vs.length=n->(∀i,i<n->∃v,vs[i]? =Option.some v/\aU ρ (f i) [v])->aU ρ (rowsOf n f) vs
 |0,vs,h,_=>List.eq_nil_of_length_eq_zero h
 |n+1,vs,h,k=>by
  rw[show rowsOf (n+1) f=rowsOf n f++f n by simp[rowsOf,G_]]
  obtain⟨v,g1,g2⟩:=k n O
  have e:vs=vs.take n++[v]:=by
   rw[<-List.take_append_drop n vs]
   have:vs.drop n=[v]:=by
    apply C_
    intro i
    rw[List.getElem?_drop]
    cases i with
    |zero=>exact g1
    |succ i=>rw[q_ O];rfl
   rw[this]
   congr 1
   rw[List.take_append_of_le_length zJ,List.take_take,Nat.min_self]
  rw[e]
  refine(oI zJ λi hi=>?_).append g2
  obtain⟨u,a,b⟩:=k i O
  exact⟨u,by rw[List.getElem?_take,if_pos hi];exact a,b⟩
def Rel.GZ{c:fw}{ρ:Env}{H:AH}{w:World}{l n T b N:Nat}{R:Nat->List AV}(F:Rel c ρ H w)(hl:H.get l= .rows n 1 R (.ty T))(G:ρ l=Option.some (b,N))(J:∀i,(R i).length=1):
  b<w.heap.size/\∃vs:List Value,vs.length=n/\(∀i,i<n->∃v,vs[i]? =Option.some v/\aU ρ (R i) [v])/\(∀v∈vs,v.oneCell'=true)/\
   ∀{α:Type} [Inhabited α] (enc:α->Value) (d:Array α),d.toList.map enc=vs->Holds enc w b 0 d/\∀(h:Array α)(q:Nat->List AV)(m:Nat)(os:Array Obj),h.size=n->(∀a,(enc a).oneCell'=true)->(∀i,(q i).length=1)->
    (∀i,i<n->∃v,(h.toList.map enc)[i]? =Option.some v/\aU ρ (q i) [v])->Rel c ρ (H.set l (.rows n 1 q (.ty T))) (sortWorld enc w b 0 m h os):=by
 have o:bp ρ w (ρ l) (.rows n 1 R (.ty T)):=by rw[<-hl];exact F.dF l
 have t:(H.get l).rw=true:=by rw[hl];rfl
 rw[G]at o
 rcases o.2 with⟨_,e⟩|⟨Q,S,vs,rest,el,fr,g1,g2,g3,g4,g5,g6,g7⟩
 ·cases e
 cases g1
 have u:b<w.heap.size:=(Array.getElem?_eq_some_iff.1 g2).1
 obtain⟨f,y⟩:=mT J g4
 refine⟨u,vs,f,y,g6,λ{α} _ enc d I=>?_⟩
 have K:d.size=n:=by rw[<-f,<-I];simp
 refine⟨λj L=>⟨?_,?_⟩,λh q m os s C D E=>?_⟩
 ·show(match w.heap[b]? with|some (.cells c _ _)=>_|_=>_)=_
  rw[g2]
  show(vs++rest).toArray[0+j]? =Option.some (enc d[j]!)
  rw[J_,B_,i_ O,<-I]
  simp[L]
 ·show(match w.heap[b]? with|some (.cells _ _ (lo,hi))=>_|_=>_)=_
  rw[g2]
  obtain⟨lo,hi⟩:=fr
  have P:=g5.w A j (by rw[<-g3,List.length_append];omega)
  show(z (lo<=0+j)&&z (0+j<hi))=false
  rw[J_]
  exact Bool.eq_false_iff.2 λe=>P (by simpa using e)
 ·have ht:Rel c ρ (H.set l (.rows n 1 q (.ty T))) (putRow enc (Sort.ahead w m) b 0 h):=by
   refine F.fC _ t G (λk o=>?_) ?_ A A A ?_
   ·show(w.heap.modify b _)[k]? =_
    rw[Array.getElem?_modify,if_neg (λe=>o e.symm)]
   ·show(w.heap.modify b _).size=_
    simp
   ·refine⟨λi _=>D i,.inr ⟨b,N,h.toList.map enc,rest,el,fr,rfl,?_,?_,oI (by simp[s]) E,g5,?_,λe=>zG⟩⟩
    ·show(w.heap.modify b _)[b]? =_
     rw[Array.getElem?_modify,if_pos A,g2]
     show some (Obj.cells _ _ _)=_
     rw[AL O]
    ·rw[<-g3];simp[s,f]
    ·intro v y
     obtain⟨a,_,rfl⟩:=List.mem_map.1 y
     exact C a
  refine ht.under (w':=sortWorld enc w b 0 m h os) ⟨rfl,rfl,rfl,?_,λk o=>?_⟩
  ·show _<=(_++os).size
   simp
  ·show(_++os)[k]? =_
   rw[Array.getElem?_append_left o]
def Je(n:Nat)(W:Nat->Int):dp (ltOf Lib.compareInt) n W=((d_ n).map W).mergeSort λx y=>z (x<=y):=by
 unfold dp
 congr 1
 funext x y
 rw[I8]
 by_cases h:x<=y
 ·rw[bW h,nZ O];rfl
 ·rw[nZ h,bW O];rfl
def Jf{ρ:Env}{W:Nat->Int}{n:Nat}{vs:List Value}(b:vs.length=n)(a:∀i,i<n->∃v,vs[i]? =Option.some v/\aU ρ (ae W i) [v]):((d_ n).map W).map (Value.int c_)=vs:=by
 apply C_
 intro i
 by_cases hi:i<n
 ·obtain⟨v,g1,g2⟩:=a i hi
  have g2:aU ρ [.int c_ (W i)] [v]:=g2
  have:=(aU.aL.1 g2).1
  simp only[VR]at this
  rw[g1,this]
  simp[hi]
 ·rw[q_ zJ,q_ O]
def T8:aC PP II where
 f:=345
 spec X args H p _:=match args with
  |[.own l n 1]=>match H.get l with
   | .rows m 1 f (.ty 3)=>X.ak (bA n f&&s_ n m&&b_ 0 n&&b_ n 4611686018427387904) (p (.bK []) ((H.set l (.rows n 1 (ae (aM f)) (.ty 3))).set l (.rows n 1 (ae (bQ n (aM f))) (.ty 3))))
   |_=>X.fail
  |_=>X.fail
 ok X sem hX args H p kp h:=by
  split at h
  ·rename_i l n
   split at h
   ·rename_i m f hl
    obtain⟨q,s⟩:=hX.ak _ _ h
    simp only[bf,D_]at q
    obtain⟨⟨⟨a1,a2⟩,F⟩,a4⟩:=q
    cases dE a2
    refine⟨.ret _ _,s,λc ρ w vs hG t v=>?_⟩
    obtain⟨u,us,rfl,x,rfl⟩:=t
    rcases x with⟨e,_⟩|⟨b,N,cap,y,rfl,C,D⟩
    ·omega
    have g:=v.GY hl a1
    obtain⟨j,vs,g1,g2,g3,g4⟩:=g.GZ (l:=l) (n:=n) (R:=ae (aM f)) (j_ _ _ _) y λ_=>rfl
    have o:=Jf g1 g2
    obtain⟨E,d⟩:=g4 (Value.int c_) ((d_ n).map (aM f)).toArray o
    have a:((d_ n).map (aM f)).length=n:=zA
    have:=Any.slices_Sort_int Tryz.Jd b 0 cap ((d_ n).map (aM f)) w E j (by rw[a];exact a4)
    change Calls Tryz.prog 345 _ _ _ at this
    rw[a]at this
    refine .inl ⟨enters_of Tryz.func345 U A _ w,this.mono ?_⟩
    rintro e w' ⟨rfl,k,os,rfl⟩
    refine⟨ρ,Ext.refl ρ,d _ (ae (bQ n (aM f))) k os ?_ (λ_=>rfl) (λ_=>rfl) λi hi=>?_,[],rfl,rfl⟩
    ·simp
    ·refine⟨.int c_ (bQ n (aM f) i),?_,⟨_,[],rfl,rfl,rfl⟩⟩
     have r:=nR (ltOf Lib.compareInt) n (aM f)
     have e:=Je n (aM f)
     rw[<-e]
     unfold bQ
     rw[List.getElem?_map,mo (by simpa [r]using hi),y_]
     simp[r,hi]
   ·exact zR
  ·exact zR
end
def WR(k:Nat)(W:Nat->Int)(i:Int):AH:={n:=38,t:=v_ [(6,.cells dz (.ex 20)),(13,.cells [.str [],.str []] (.ty 30)),(34,.cells [.own 37 i.toNat 1] (.ty 26)),(35,.tE),(36,.loop .ready none (v_ [(2,.ptr 34 0 0 0)]) 13 [7] (bg II 347) (bh II 347) 35),(37,.rows i.toNat 1 (ae W) (.ty 3))]}
def Cx(k:Nat)(W:Nat->Int)(i:Int):St:={t:=v_ [(0,.yield 36),(5,.ab k 1 (ae W)),(6,.int c_ (M k)),(7,.int c_ i)],nt:=16,H:=WR k W i,df:=[]}
def Cy(k:Nat)(W:Nat->Int):GE:=.one (.x 0 {t:=.e,nt:=16,H:=WR k W (M k),df:=[]})
def yS(k:Nat)(W:Nat->Int)(i:Int)(Q:Prop):(kr [] [] 346 1001 37 (Cx k W) (λ_=>Cy k W) (λi=>i+1) Q i)=(ah (z (i<M k)) (B (z (0<=i)&&z (i<M k)) (B (z (i.toNat<=i.toNat)&&true&&true&&z ((i.toNat+1)*8<=140737488355328)&&true) (B (aN c_ (i+1)) (ax (i.toNat+1) (a_ (i+1)) (an (i.toNat+1) (λa=>bif b_ a i.toNat then ae W a else n_ 1 (o_ (0+(a-i.toNat)*1) [f_ c_ (W i.toNat)])) (ae W)/\aT (bg II 347) (bg II 347)/\aT (bh II 347) (bh II 347)/\ax (i.toNat+1) (a_ (i+1)) (zyB [] (zyB [] (zyI (i+1) (zyN k (zyR k (ae W) (zyI (M k) Q))))))))))) (ax i.toNat (a_ (M k)) (zyR i.toNat (ae W) (aT (bg II 347) (bg II 347)/\aT (bh II 347) (bh II 347)/\ax i.toNat (a_ (M k)) (zyB [] (zyB [] True)))))):=U
def Qw(nw ng k:Nat)(f g:Nat->List AV)(W:Nat->Int)(a fl top:Int)(nu de:List UInt8)(Q:AV->Prop){b}(d:b=(if k_ (bl nu*M k+bl de-1) (bl de)>1 then k_ (bl nu*M k+bl de-1) (bl de)else 1)){c}(e:c=(bQ (a_ (M k)) (λi=>W i) (a_ (b-1)))):(kp [AB,T8,Cc] [(1001,37,Cx k W 0,Cy k W)] 341 [.agg [.ab nw 3 f,.ab ng 1 g,.int c_ a,.int c_ fl,.str nu,.str de,.int c_ top],.ab k 1 (ae W)] Q)=(B (iX nu&&p_ (K_ nu) 1000000) (B (iX de&&p_ (K_ de) 1000000) (aE PP II false (aD II 346 1001) 37 (Cx k W 0) (Cy k W)/\aT (bg II 347) (bg II 347)/\aT (bh II 347) (bh II 347)/\zyB [] (zyB [] (zyN k (zyR k (ae W) (zyI (M k) (B ((g_ (List.range.loop (a_ (M k)) []) λi=>true)&&s_ (a_ (M k)) (a_ (M k))&&b_ 0 (a_ (M k))&&b_ (a_ (M k)) 4611686018427387904) (B (z (M k=M k)) (B (z (M k=M k)) (B (aN c_ (bl nu*M k)) (B (aN c_ (bl nu*M k+bl de)) (B (aN c_ (bl nu*M k+bl de-1)) (B (!decide (bl de=0)&&aN c_ (k_ (bl nu*M k+bl de-1) (bl de))) (B (aN c_ (b-1)) (B (z (0<=b-1)&&z (b-1<M (a_ (M k)))) (B (z (a_ (b-1)<a_ (M k))) (B (z (0<=bQ (a_ (M k)) (λi=>W i) (a_ (b-1)))&&aN c_ c) (Q (r_ [e_ (bu (c.toNat/h_ c.toNat 1)),e_ (bu (1/h_ c.toNat 1))])))))))))))))))))))):=by subst_vars;kernel_rfl
section
open Go.Sort Go.Shelf Go.Proofs
def bX(k:Nat)(W:Nat->Int):Bool:=p_ k 1000&&(d_ k).all λi=>z (0<=W i)&&z (W i<=4398046511104)
def dW{k:Nat}{W:Nat->Int}(h:bX k W=true):k<=1000/\∀i,i<k->0<=W i/\W i<=4398046511104:=by
 unfold bX at h
 rw[bf,t_]at h
 exact⟨jX h.1,λi hi=>by simpa using h.2 i (List.mem_range.2 hi)⟩
def Jm{k:Nat}{W:Nat->Int}(g:k<=1000000):aE PP II false (aD II 346 1001) 37 (Cx k W 0) (Cy k W):=by
 have key:=aE.of (ι:=Nat) iw [] (bm PP II []) 1000 (c:=aD II 346 1001) (ir:=false) 37 (λi=>i<=k) (λi=>Cx k W (i:Int)) (λ_=>Cy k W) (λi=>k-i) (λi=>i+1) 0 A (Nat.zero_le _) λi hi=>?_
 ·exact key
 have hi:i<=k:=hi
 by_cases a:i<k
 ·have go:∀(j:Int)(Q:Prop),j=(i:Int)->Q->kr [] [] 346 1001 37 (Cx k W) (λ_=>Cy k W) (λi=>i+1) Q j:=λj Q d hQ=>by
   rw[yS]
   have b:a_ j=i:=O
   have e:a_ (j+1)=i+1:=O
   have f:M k=(k:Int):=rfl
   rw[b,e]
   have rows:=ey W i (W i) A
   refine Zg (λ_=>?_) λh=>absurd h O
   refine cC _ _ zN (cC _ _ (by rw[bW (dw i),bW (O:(i+1)*8<=140737488355328)];rfl) (cC _ _ (aq O O) ?_))
   exact YG A ⟨rows,rfl,rfl,YG A (Zi A (Zi A (Zf A (YG A ⟨bL _ _,Zf A hQ⟩))))⟩
  exact go (i:Int) _ A ⟨a,O,rfl⟩
 ·have hi:i=k:=by omega
  subst hi
  have go:∀(j:Int)(Q:Prop),j=(i:Int)->kr [] [] 346 1001 37 (Cx i W) (λ_=>Cy i W) (λi=>i+1) Q j:=λj Q d=>by
   rw[yS]
   have f:M i=(i:Int):=rfl
   have b:a_ j=a_ (M i):=O
   refine Zg (λh=>absurd h O) λ_=>?_
   rw[b]
   exact YG A ⟨bL _ _,rfl,rfl,YG A (Zi A (Zi A trivial))⟩
  exact go (i:Int) _ A
def lC(nu de:List UInt8)(k:Nat):Int:=(if k_ (bl nu*M k+bl de-1) (bl de)>1 then k_ (bl nu*M k+bl de-1) (bl de)else 1)-1
def iD(nu de:List UInt8)(k:Nat)(W:Nat->Int):Int:=bQ k W (lC nu de k).toNat
structure SQ (nu de:List UInt8):Prop where
 a1:iX nu=true
 a2:iX de=true
 l1:nu.length<=1000000
 l2:de.length<=1000000
 n0:0<=bl nu
 nd:bl nu<=bl de
 d1:1<=bl de
 d10:bl de<=10
def SR{nu de:List UInt8}(h:oa nu de=true):SQ nu de:=by
 unfold oa at h
 rw[List.any_eq_true]at h
 obtain⟨k,a,h⟩:=h
 simp only[bf,bn]at h
 obtain⟨rfl,rfl⟩:=h
 have a:=List.mem_range.1 a
 match k,a with
 |0,_=>exact⟨rfl,rfl,zC,zC,zC,zC,zC,zC⟩
 |1,_=>exact⟨rfl,rfl,zC,zC,zC,zC,zC,zC⟩
 |2,_=>exact⟨rfl,rfl,zC,zC,zC,zC,zC,zC⟩
 |3,_=>exact⟨rfl,rfl,zC,zC,zC,zC,zC,zC⟩
 |4,_=>exact⟨rfl,rfl,zC,zC,zC,zC,zC,zC⟩
 |5,_=>exact⟨rfl,rfl,zC,zC,zC,zC,zC,zC⟩
 |6,_=>exact⟨rfl,rfl,zC,zC,zC,zC,zC,zC⟩
 |7,_=>exact⟨rfl,rfl,zC,zC,zC,zC,zC,zC⟩
 |8,_=>exact⟨rfl,rfl,zC,zC,zC,zC,zC,zC⟩
 |9,_=>exact⟨rfl,rfl,zC,zC,zC,zC,zC,zC⟩
 |10,_=>exact⟨rfl,rfl,zC,zC,zC,zC,zC,zC⟩
 |k+11,h=>exact absurd h O
def qI{k:Nat}{W:Nat->Int}{i:Nat}(hi:i<k):∃j,j<k/\bQ k W i=W j:=by
 have b:=nR (ltOf Lib.compareInt) k W
 have:bQ k W i∈dp (ltOf Lib.compareInt) k W:=by
  unfold bQ
  rw[y_,mo O]
  exact List.getElem_mem _
 unfold dp at this
 rw[List.mem_mergeSort]at this
 obtain⟨j,a,e⟩:=List.mem_map.1 this
 exact⟨j,List.mem_range.1 a,e.symm⟩
def yV{nu de:List UInt8}(h:SQ nu de){k:Nat}(g:0<k)(i:k<=1000):0<=lC nu de k/\lC nu de k<k/\0<=bl nu*M k/\bl nu*M k<=10000/\0<=k_ (bl nu*M k+bl de-1) (bl de)/\k_ (bl nu*M k+bl de-1) (bl de)<=k:=by
 obtain⟨_,_,_,_,n0,nd,d1,d10⟩:=h
 unfold lC
 have a:(0:Int)<=M k:=E_ k
 have b:M k=(k:Int):=rfl
 generalize bl nu=n at*
 generalize bl de=d at*
 have c:0<=n*M k:=Int.mul_nonneg n0 a
 have j:n*M k<=d*M k:=u_ nd a
 have l:d*M k<=10*M k:=u_ d10 a
 have e:k_ (n*M k+d-1) d=(n*M k+d-1)/d:=Int.tdiv_eq_ediv_of_nonneg O
 rw[e]
 have f:0<=(n*M k+d-1)/d:=Int.ediv_nonneg O O
 have m:(n*M k+d-1)/d<(k:Int)+1:=by
  refine Int.ediv_lt_of_lt_mul O ?_
  rw[Int.add_mul,Int.mul_comm (k:Int) d]
  have o:d*M k=d*(k:Int):=rfl
  omega
 generalize (n*M k+d-1)/d=t at*
 refine⟨?_,?_,c,O,f,O⟩
 ·split<;>omega
 ·split<;>omega
def QB{nw ng k:Nat}{f g:Nat->List AV}{W:Nat->Int}{a fl top:Int}{nu de:List UInt8}(e:bX k W=true)(d:0<k)(h:oa nu de=true):
  af PP II 341 [rJ nw ng f g a fl top nu de,.ab k 1 (ae W)] HP (.ret (kA (iD nu de k W).toNat 1) HP):=by
 have b:=SR h
 obtain⟨l,m⟩:=dW e
 obtain⟨n,o,t,u,t1,t2⟩:=yV b d l
 obtain⟨j,p,q⟩:=qI (W:=W) (i:=(lC nu de k).toNat) (O:(lC nu de k).toNat<k)
 have c:=m j p
 rw[<-q]at c
 refine kz (T:=[(1001,37,Cx k W 0,Cy k W)]) ((Qw nw ng k f g W a fl top nu de _ A A).mpr ?_)
 obtain⟨a1,a2,l1,l2,n0,nd,d1,d10⟩:=b
 have lp:=Jm (W:=W) (O:k<=1000000)
 have r:a_ (M k)=k:=rfl
 rw[r]
 have c0:(g_ (List.range.loop k []) λi=>true)=true:=List.all_eq_true.2 λ_ _=>rfl
 refine cC _ _ (by rw[a1,kV l1];rfl) (cC _ _ (by rw[a2,kV l2];rfl) ⟨lp,rfl,rfl,Zi A (Zi A (YG A ⟨bL _ _,Zf A ?_⟩))⟩)
 refine cC _ _ (by rw[c0,ni,eV d,eV (O:k<4611686018427387904)];rfl) (cC _ _ (bW A) (cC _ _ (bW A) ?_))
 refine cC _ _ (aq O O) (cC _ _ (aq O O) (cC _ _ (aq O O) (cC _ _ ?_ ?_)))
 ·rw[aq O O,nZ O];rfl
 have eq:(if k_ (bl nu*M k+bl de-1) (bl de)>1 then k_ (bl nu*M k+bl de-1) (bl de)else 1)-1=lC nu de k:=rfl
 rw[eq]
 have s:bQ k (λi=>W i) (lC nu de k).toNat=iD nu de k W:=rfl
 rw[s]
 have c:0<=iD nu de k W/\iD nu de k W<=4398046511104:=c
 refine cC _ _ (aq O O) (cC _ _ ?_ (cC _ _ (bW O) (cC _ _ (AJ c.1 (aq O O)) (λ_=>⟨rfl,rfl,trivial⟩))))
 simp only[bf,bn]
 exact⟨n,o⟩
def SS:aC PP II:=aC.l8 341
 (λX args b=>match args with
  |[.agg [.ab _ 3 _,.ab _ 1 _,.int c_ _,.int c_ _,.str nu,.str de,.int c_ _],.ab k 1 r]=>X.ak (bA k r&&bX k (aM r)&&b_ 0 k&&oa nu de) (b (kA (iD nu de k (aM r)).toNat 1))
  |_=>X.fail)
 λX sem hX args b h=>by
  split at h
  ·obtain⟨a,c⟩:=hX.ak _ _ h
   simp only[bf,D_]at a
   exact⟨_,c,λ_=>rfl,λ_=>rfl,af.rI (QB a.1.1.2 a.1.2 a.2) (cy a.1.1.1)⟩
  ·exact zR
def Up(q:Query)(k:Nat)(W:Nat->Int)(Q:AV->Prop){b}(e:b=(a_ (du (λi=>W i) k))){c}(f:c=(g_ (List.range.loop k []) λi=>true)){d}(g:d=(iD q.nu q.de k λi=>W i)):(kq [SM,SN,SO,SP,SS] [] 44 [.agg (aY q),.ab k 1 (ae W)] Q)=(ah (z (M k=0)) (Q (r_ [e_ [48],e_ [49]])) (ah (z (q.a=1)) (B (c&&aN c_ (M k)) (Q (r_ [e_ (bu (k/h_ k 1)),e_ (bu (1/h_ k 1))]))) (ah (z (q.a=2)) (B (iu k (ae W)&&z (0<=du (λi=>W i) k)) (Q (r_ [e_ (bu (a_ (du (λi=>W i) k)/h_ b 1)),e_ (bu (1/h_ b 1))]))) (ah (z (q.a=3)) (B (iu k (ae W)&&z (0<=du (λi=>W i) k)&&b_ 0 k&&aN c_ (M k)) (Q (r_ [e_ (bu (a_ (du (λi=>W i) k)/h_ b k)),e_ (bu (k/h_ b k))]))) (ah (z (q.a=4)) (B (c&&p_ k 1000000000000&&b_ 0 k&&z (0<=cG (λi=>W i) k)&&aN c_ (cG (λi=>W i) k)) (Q (r_ [e_ (bu (a_ (cG (λi=>W i) k)/h_ (a_ (cG (λi=>W i) k)) 1)),e_ (bu (1/h_ (a_ (cG (λi=>W i) k)) 1))]))) (ah (z (q.a=5)) (B ((c&&bX k λi=>W i)&&b_ 0 k&&oa q.nu q.de) (Q (r_ [e_ (bu (d.toNat/h_ d.toNat 1)),e_ (bu (1/h_ d.toNat 1))]))) False)))))):=by subst_vars;kernel_rfl
end
section
open Go.Sort Go.Shelf Go.Proofs
def jO(q:Query)(k:Nat)(W:Nat->Int):Nat×Nat :=
 if k=0 then(0,1)else if q.a=1 then(k,1)else if q.a=2 then((du W k).toNat,1)else if q.a=3 then((du W k).toNat,k)else if q.a=4 then((cG W k).toNat,1)else((iD q.nu q.de k W).toNat,1)
def c8(q:Query)(k:Nat)(W:Nat->Int):List UInt8:=bu ((jO q k W).1/h_ (jO q k W).1 (jO q k W).2)
def da(q:Query)(k:Nat)(W:Nat->Int):List UInt8:=bu ((jO q k W).2/h_ (jO q k W).1 (jO q k W).2)
def QD{W:Nat->Int}{k:Nat}(h:∀i,i<k->0<=W i/\W i<=4398046511104):0<=du W k/\du W k<=4398046511104*k:=by
 induction k with
 |zero=>exact⟨M_ _,M_ _⟩
 |succ k a=>
  obtain⟨b,c⟩:=a λi hi=>h i O
  obtain⟨d,e⟩:=h k O
  show 0<=du W k+W k/\du W k+W k<=_
  omega
def pH(W:Nat->Int):∀k,0<k->∃j,j<k/\cG W k=W j
 |1,_=>⟨0,O,by show(if W 0>W 0 then W 0 else W 0)=_;split<;>rfl⟩
 |k+2,_=>by
  obtain⟨j,a,e⟩:=pH W (k+1) O
  show ∃j,j<k+2/\(if W (k+1)>cG W (k+1)then W (k+1)else cG W (k+1))=W j
  split
  ·exact⟨k+1,O,rfl⟩
  ·exact⟨j,O,e⟩
def ua{k:Nat}{W:Nat->Int}(h:bX k W=true):iu k (ae W)=true/\0<=du W k/\du W k<=4398046511104000:=by
 obtain⟨d,b⟩:=dW h
 have a:=λ(i:Nat) (hi:i<=k)=>QD (W:=W) (k:=i) λj e=>b j O
 obtain⟨c,f⟩:=a k (dw _)
 refine⟨?_,c,O⟩
 unfold iu
 rw[dy,kV O,z_,z_,t_]
 intro i hi
 have hi:=List.mem_range.1 hi
 obtain⟨g,l⟩:=a i O
 show aN c_ (du W i)=true
 exact aq O O
def QE{q:Query}{k:Nat}{W:Nat->Int}(h:bX k W=true)(a:eU q=true):(jO q k W).1<9223372036854775808/\(jO q k W).2<9223372036854775808/\0<(jO q k W).2:=by
 obtain⟨g,e⟩:=dW h
 obtain⟨_,m,n⟩:=ua h
 unfold jO
 by_cases f:k=0
 ·rw[if_pos f];decide
 rw[if_neg f]
 obtain⟨j,b,c⟩:=pH W k O
 have l:=e j b
 rw[<-c]at l
 split
 ·exact⟨by show k<_;omega,by show 1<_;omega,w_⟩
 split
 ·exact⟨by show(du W k).toNat<_;omega,by show 1<_;omega,w_⟩
 split
 ·exact⟨by show(du W k).toNat<_;omega,by show k<_;omega,by show 0<k;omega⟩
 split
 ·exact⟨by show(cG W k).toNat<_;omega,by show 1<_;omega,w_⟩
 ·rename_i n1 o p r
  refine⟨?_,by show 1<_;omega,w_⟩
  have ht:oa q.nu q.de=true:=by
   unfold eU EV at a
   simp only[bf,x_,bn]at a
   rcases a.2 with(h|h)|h
   ·exact absurd h.1.1.1 n1
   ·exact h.2
   ·omega
  obtain⟨s,t,_⟩:=yV (SR ht) (O:0<k) g
  obtain⟨j,b,c⟩:=qI (W:=W) (i:=(lC q.nu q.de k).toNat) (O:(lC q.nu q.de k).toNat<k)
  have d:=e j b
  rw[<-c]at d
  have d:0<=iD q.nu q.de k W/\iD q.nu q.de k W<=4398046511104:=d
  show(iD q.nu q.de k W).toNat<_
  omega
def Jn{n d:Nat}(hn:n<9223372036854775808)(c:d<9223372036854775808)(a:0<d):bJ (bu (n/h_ n d)) (bu (d/h_ n d))=true:=by
 have b:0<h_ n d:=Nat.gcd_pos_of_pos_right n a
 have t1:=dS (H_ n (h_ n d)) (jL hn)
 have t2:=dS (H_ d (h_ n d)) (jL c)
 unfold bJ
 rw[dc t1,dc t2,cq,cq,eV (Nat.div_pos (Nat.le_of_dvd a (F_ n d)) b),Nat.gcd_div (Nat.gcd_dvd_left n d) (F_ n d),Nat.div_self b]
 rfl
def cz{q:Query}{k:Nat}{W:Nat->Int}(h:bX k W=true)(a:eU q=true):bJ (c8 q k W) (da q k W)=true:=by
 obtain⟨b,c,d⟩:=QE h a
 exact Jn b c d
def Fj{q:Query}{k:Nat}{W:Nat->Int}(h:bX k W=true)(l:eU q=true):af PP II 44 [.agg (aY q),.ab k 1 (ae W)] HR (.ret (.agg [.str (c8 q k W),.str (da q k W)]) HR):=by
 obtain⟨D,s⟩:=dW h
 obtain⟨s0,n,E⟩:=ua h
 refine qh (ks:=[SM,SN,SO,SP,SS]) (T:=[]) ?_
 rw[Up _ _ _ _ A A A]
 have c0:(g_ (List.range.loop k []) λi=>true)=true:=List.all_eq_true.2 λ_ _=>rfl
 have f:∀(a b c d:List UInt8),a=c->b=d->∀σ,AV.le σ (.agg [.str a,.str b]) (.agg [.str c,.str d]):=λa b c d t u σ=>⟨t,u,trivial⟩
 unfold c8 da jO
 refine Zg (λg=>?_) λg=>?_
 ·have g:k=0:=Int.ofNat_inj.1 g
  rw[if_pos g]
  refine f _ _ _ _ ?_ ?_
  ·show _=bu (0/h_ 0 1)
   exact ly.symm
  ·show _=bu (1/h_ 0 1)
   exact GR.symm
 have g:k≠0:=λe=>g (by rw[e];rfl)
 rw[if_neg g]
 have kp:0<k:=Nat.pos_of_ne_zero g
 obtain⟨j,v,w⟩:=pH W k kp
 have o:=s j v
 rw[<-w]at o
 have x:aN c_ (cG W k)=true:=aq O O
 have p:aN c_ (M k)=true:=aq (Int.le_trans zC (E_ k)) (by show(k:Int)<=_;omega)
 refine Zg (λa1=>?_) λn1=>Zg (λa2=>?_) λm=>Zg (λy=>?_) λr=>Zg (λa4=>?_) λC=>Zg (λF=>?_) λG=>?_
 ·rw[if_pos a1]
  exact cC _ _ (by rw[c0,p];rfl) (f _ _ _ _ A A)
 ·rw[if_neg n1,if_pos a2]
  exact cC _ _ (by rw[s0,bW (show 0<=du (λi=>W i) k from n)];rfl) (f _ _ _ _ A A)
 ·rw[if_neg n1,if_neg m,if_pos y]
  exact cC _ _ (by rw[s0,bW (show 0<=du (λi=>W i) k from n),eV kp,p];rfl) (f _ _ _ _ A A)
 ·rw[if_neg n1,if_neg m,if_neg r,if_pos a4]
  exact cC _ _ (by rw[c0,kV O,eV kp,bW (show 0<=cG (λi=>W i) k from o.1),show aN c_ (cG (λi=>W i) k)=true from x];rfl) (f _ _ _ _ A A)
 ·rw[if_neg n1,if_neg m,if_neg r,if_neg C]
  have ht:oa q.nu q.de=true:=by
   unfold eU EV at l
   simp only[bf,x_,bn]at l
   rcases l.2 with(h|h)|h
   ·exact absurd h.1.1.1 n1
   ·exact h.2
   ·omega
  exact cC _ _ (by rw[c0,show bX k (λi=>W i)=true from h,eV kp,ht];rfl) (f _ _ _ _ A A)
 ·unfold eU EV at l
  simp only[bf,x_,bn]at l
  omega
def fS:aC PP II:=aC.s9 44
 (λX args c=>match args with
  |[.agg cs,.ab k 1 r]=>match toQ cs with
   |some q=>X.ak (oA cs&&eU q&&bA k r&&bX k (aM r)) (c (.agg [.str (c8 q k (aM r)),.str (da q k (aM r))]))
   |none=>X.fail
  |[.agg cs,.aw]=>match toQ cs with
   |some q=>X.ak (oA cs&&eU q) (c (.agg [.str (c8 q 0 λ_=>0),.str (da q 0 λ_=>0)]))
   |none=>X.fail
  |_=>X.fail)
 λX sem hX args c h=>by
  split at h
  ·split at h
   ·rename_i q b
    obtain⟨a,d⟩:=hX.ak _ _ h
    simp only[bf]at a
    refine⟨_,d,λ_=>rfl,λσ=>?_,af.dA (Fj a.2 a.1.1.2) (toQ_le b a.1.1.1) (cy a.1.2)⟩
    show [AV.bD σ (.agg _),_]=_
    rw[nU b];rfl
   ·exact zR
  ·split at h
   ·rename_i q b
    obtain⟨a,d⟩:=hX.ak _ _ h
    simp only[bf]at a
    refine⟨_,d,λ_=>rfl,λσ=>?_,af.dA (Fj (k:=0) (W:=λ_=>0) A a.2) (toQ_le b a.1) (show(0:Nat)=0 from rfl)⟩
    show [AV.bD σ (.agg _),_]=_
    rw[nU b];rfl
   ·exact zR
  ·exact zR
end
section
open Go.Sort Go.Shelf Go.Proofs
def Rel.Nv{c:fw}{ρ:Env}{H:AH}{w:World}{l:Nat}{f g:Nat->List AV}{a:Access}(h:Rel c ρ H w)(hl:H.get l= .rows 0 1 f a):Rel c ρ (H.set l (.rows 0 1 g a)) w:=by
 have g:∀j,j≠l->(H.set l (.rows 0 1 g a)).get j=H.get j:=λj e=>N_ _ _ (λd=>e d.symm)
 refine h.alike A (λj b=>?_) (λj=>?_) (λj=>?_)
 ·by_cases e:j=l
  ·subst e
   rw[j_]
   rw[hl]at b
   exact⟨λ_ hi=>absurd hi (lZ _),b.2⟩
  ·rw[g j e];exact b
 ·by_cases e:j=l
  ·subst e;rw[j_,hl];rfl
  ·rw[g j e]
 ·by_cases e:j=l
  ·subst e;rw[j_,hl];exact⟨(λe=>zG),(λe=>zG)⟩
  ·rw[g j e]
def cw:aC PP II where
 f:=150
 spec X args H p _:=match args with
  |[.own l n 1,.fn g [] []]=>match H.get l with
   | .rows m 1 f (.ty 3)=>X.ak (bA n f&&s_ n m&&b_ n 4611686018427387904&&p_ 12 l&&b_ l H.n) (match g with
    |99=>p (.bK []) (H.set l (.rows n 1 (ae (bQ n (aM f))) (.ty 3)))
    |102=>p (.bK []) (H.set l (.rows n 1 (ae (cK n (aM f))) (.ty 3)))
    |_=>X.fail)
   |_=>X.fail
  |_=>X.fail
 ok X sem hX args H p kp h:=by
  split at h
  ·rename_i l n g
   split at h
   ·rename_i m f hl
    obtain⟨u,j⟩:=hX.ak _ _ h
    simp only[bf,D_]at u
    obtain⟨⟨⟨⟨a1,a2⟩,a4⟩,x⟩,y⟩:=u
    cases dE a2
    have key:∀b:Nat->Int,(0<n->af PP II 150 [.own 12 n 1,.fn g [] []] (lz n (aM f)) (.ret (.bK []) (lz n b)))->af PP II 150 [.own l n 1,.fn g [] []] H (.ret (.bK []) (H.set l (.rows n 1 (ae b) (.ty 3)))):=λb C=>by
     by_cases d:n=0
     ·subst d
      intro c ρ w vs hG q r
      exact AK c ρ w vs hG q (r.Nv hl)
     ·have:=Qn (C O) hl a1 (jX x) y
      intro c ρ w vs hG q r
      have e:∀(o:CO),o= .ret (.bK []) ((H.set l (.rows n 1 (ae (aM f)) (.ty 3))).set l (.rows n 1 (ae b) (.ty 3)))->∀e w',o.post c ρ e w'->(CO.ret (.bK []) (H.set l (.rows n 1 (ae b) (.ty 3)))).post c ρ e w':=by
       rintro _ rfl e w' hp
       cases e with
       |returned v=>
        obtain⟨ρ',hx,s,t⟩:=hp
        refine⟨ρ',hx,s.congr A λi=>?_,t⟩
        by_cases k:i=l
        ·subst k;rw[j_,j_]
        ·rw[N_ _ _ (λa=>k a.symm),N_ _ _ (λa=>k a.symm),N_ _ _ (λa=>k a.symm)]
       |panicked D=>exact hp.elim
       |outgrown=>exact hp.elim
      rcases this c ρ w vs hG q r with⟨k1,k2⟩|⟨v,w',k1,k2⟩
      ·exact .inl ⟨k1,k2.mono (e _ A)⟩
      ·exact .inr ⟨v,w',k1,e _ A _ _ k2⟩
    split at j
    ·exact⟨.ret _ _,j,key _ λd=>I9 d a4⟩
    ·exact⟨.ret _ _,j,key _ λd=>Ja d a4⟩
    ·exact absurd j hX.fail
   ·exact zR
  ·exact zR
def az(L G:Nat->Int)(C:Nat->Bool)(i:Nat):List AV:=[.int c_ (L i),.int c_ (G i),.bool (C i)]
end
section
open Go.Sort Go.Shelf Go.Proofs
def hQ(n:Nat)(a:List (Nat×ai)):AH:={n:=n,t:=v_ ([(0,.cells [.ab 5 2 aA] .ro),(1,.cells [.str [48],.str [49]] .ro),(3,.cells [.map (some 13)] .ro),(6,.cells dz (.ex 20)),(13,.map lS)]++a)}
def hB(q:Query)(n:Nat)(a:List (Nat×ai)):AH:=hQ n ([(14,.cells (aY q) (.ty 32)),(15,.cells [.str [],.str []] (.ty 30))]++a)
def ub(a b c:Nat)(d:List (Nat×AV)):Tr AV:=v_ ([(2,.fn a [] []),(3,.fn 95 [] []),(4,.fn b [] []),(5,.fn c [] []),(6,.ptr 14 0 0 0),(12,.ptr 15 0 0 0)]++d)
def pQ(d e f:Nat)(q:Query)(k:Nat)(L G:Nat->Int)(C:Nat->Bool)(b c:Int->Nat)(V a:Nat->Int)(i:Int):St:={t:=ub d e f [(13,.own 16 (b i) 1),(14,.own 17 (c i) 1),(20,.ab k 3 (az L G C)),(21,.int c_ (M k)),(22,.int c_ i)],nt:=69,H:=hB q 18 [(16,.rows (b i) 1 (ae V) (.ty 3)),(17,.rows (c i) 1 (ae a) (.ty 3))],df:=[]}
def pR(d e f:Nat)(q:Query)(b c:Nat)(V a:Nat->Int):GE:=.one (.x 0 {t:=ub d e f [(13,.own 16 b 1),(14,.own 17 c 1)],nt:=69,H:=hB q 18 [(16,.rows b 1 (ae V) (.ty 3)),(17,.rows c 1 (ae a) (.ty 3))],df:=[]})
def kB(a b c:Nat)(q:Query)(k:Nat)(L G:Nat->Int)(i:Int):St:={t:=ub a b c [(13,.aw),(14,.own 16 i.toNat 1),(20,.ab k 3 (az L G λ_=>false)),(21,.int c_ (M k)),(22,.int c_ i)],nt:=69,H:=hB q 17 [(16,.rows i.toNat 1 (ae (match a with|97=>L|_=>G)) (.ty 3))],df:=[]}
def kC(b c d:Nat)(q:Query)(k:Nat)(a:Nat->Int):GE:=.one (.x 0 {t:=ub b c d [(13,.aw),(14,.own 16 k 1)],nt:=69,H:=hB q 17 [(16,.rows k 1 (ae a) (.ty 3))],df:=[]})
def kD(f g h:Nat)(q:Query)(e d:Nat)(V a:Nat->Int)(b c:Int->List UInt8)(i:Int):St:={t:=ub f g h [(13,.own 16 e 1),(14,.own 17 d 1),(17,.ptr 18 0 0 0),(49,.int c_ (M d)),(50,.int c_ i)],nt:=69,H:=hB q 19 [(16,.rows e 1 (ae V) .ro),(17,.rows d 1 (ae a) (.ty 3)),(18,.cells [.str (b i),.str (c i)] (.ty 30))],df:=[]}
def kE(c d e:Nat)(q:Query)(a b:List UInt8):GE:=.one (.x 2 {t:=ub c d e [(17,.ptr 18 0 0 0)],nt:=69,H:=hB q 19 [(18,.cells [.str a,.str b] (.ty 30))],df:=[]})
def kF(e f g:Nat)(q:Query)(d:Nat)(a:Nat->Int)(b c:Int->List UInt8)(i:Int):St:={t:=ub e f g [(13,.aw),(14,.own 16 d 1),(17,.ptr 17 0 0 0),(49,.int c_ (M d)),(50,.int c_ i)],nt:=69,H:=hB q 18 [(16,.rows d 1 (ae a) (.ty 3)),(17,.cells [.str (b i),.str (c i)] (.ty 30))],df:=[]}
def kG(c d e:Nat)(q:Query)(a b:List UInt8):GE:=.one (.x 2 {t:=ub c d e [(17,.ptr 17 0 0 0)],nt:=69,H:=hB q 18 [(17,.cells [.str a,.str b] (.ty 30))],df:=[]})
def wK(q:Query)(k:Nat)(L G:Nat->Int)(C:Nat->Bool)(c d:Int->Nat)(V b:Nat->Int)(f g:Nat)(i:Int)(Q:Prop):(kr [fS,cw,cu,bR,mR,fO] [] 96 3001 16 (pQ 97 98 99 q k L G C c d V b) (λ_=>pR 97 98 99 q f g V b) (λi=>i+1) Q i)=(ah (z (i<M k)) (B (z (0<=i)&&z (i<M k)) (ah (C i.toNat) (B (z (c i<=c i)&&true&&true&&z ((c i+1)*8<=140737488355328)&&true) (B (aN c_ (i+1)) (ax (d i) (d (i+1)) (zyR (d i) (ae b) (ax (c i+1) (c (i+1)) (an (c i+1) (λe=>bif b_ e (c i)then ae V e else n_ 1 (o_ (0+(e-c i)*1) [f_ c_ (L i.toNat)])) (ae V)/\zyB [] (zyB [] (zyN q.nw (zyR q.nw (au q.C) (zyN q.ng (zyR q.ng (aR q.G) (zyI q.a (zyI q.fl (zyB q.nu (zyB q.de (zyI q.top (zyB [48] (zyB [49] (zyR 5 aA (zyI (M k) (ax (c i+1) (c (i+1)) (zyN k (zyR k (az L G C) (zyI (i+1) (ax (d i) (d (i+1)) Q))))))))))))))))))))))))) (B (z (d i<=d i)&&true&&true&&z ((d i+1)*8<=140737488355328)&&true) (B (aN c_ (i+1)) (ax (d i+1) (d (i+1)) (an (d i+1) (λe=>bif b_ e (d i)then ae b e else n_ 1 (o_ (0+(e-d i)*1) [f_ c_ (L i.toNat)])) (ae b)/\ax (c i) (c (i+1)) (zyR (c i) (ae V) (zyB [] (zyB [] (zyN q.nw (zyR q.nw (au q.C) (zyN q.ng (zyR q.ng (aR q.G) (zyI q.a (zyI q.fl (zyB q.nu (zyB q.de (zyI q.top (zyB [48] (zyB [49] (zyR 5 aA (zyI (M k) (ax (c i) (c (i+1)) (zyN k (zyR k (az L G C) (zyI (i+1) (ax (d i+1) (d (i+1)) Q))))))))))))))))))))))))))) (ax (d i) g (zyR (d i) (ae b) (ax (c i) f (zyR (c i) (ae V) (zyB [] (zyB [] (zyN q.nw (zyR q.nw (au q.C) (zyN q.ng (zyR q.ng (aR q.G) (zyI q.a (zyI q.fl (zyB q.nu (zyB q.de (zyI q.top (zyB [48] (zyB [49] (zyR 5 aA (ax (c i) f (ax (d i) g True))))))))))))))))))))):=U
def uc(q:Query)(k:Nat)(L G:Nat->Int)(i:Int)(Q:Prop):(kr [fS,cw,cu,bR,mR,fO] [] 96 3001 16 (kB 97 98 99 q k L G) (λ_=>kC 97 98 99 q k L) (λi=>i+1) Q i)=(ah (z (i<M k)) (B (z (0<=i)&&z (i<M k)) (B (z (i.toNat<=i.toNat)&&true&&true&&z ((i.toNat+1)*8<=140737488355328)&&true) (B (aN c_ (i+1)) (ax (i.toNat+1) (a_ (i+1)) (an (i.toNat+1) (λb=>bif b_ b i.toNat then ae L b else n_ 1 (o_ (0+(b-i.toNat)*1) [f_ c_ (L i.toNat)])) (ae L)/\zyB [] (zyB [] (zyN q.nw (zyR q.nw (au q.C) (zyN q.ng (zyR q.ng (aR q.G) (zyI q.a (zyI q.fl (zyB q.nu (zyB q.de (zyI q.top (zyB [48] (zyB [49] (zyR 5 aA (zyI (M k) (zyN k (zyR k (az L G λx=>false) (zyI (i+1) (ax (i.toNat+1) (a_ (i+1)) Q))))))))))))))))))))))) (ax i.toNat k (zyR i.toNat (ae L) (zyB [] (zyB [] (zyN q.nw (zyR q.nw (au q.C) (zyN q.ng (zyR q.ng (aR q.G) (zyI q.a (zyI q.fl (zyB q.nu (zyB q.de (zyI q.top (zyB [48] (zyB [49] (zyR 5 aA (ax i.toNat k True)))))))))))))))))):=U
def ud(q:Query)(f g:Nat)(V c:Nat->Int)(d e:Int->List UInt8)(a b:List UInt8)(i:Int)(Q:Prop){h}(n:h=(c8 {nw:=q.nw,C:=λj k=>bV (au q.C j) k,ng:=q.ng,G:=λj=>q.G j,a:=q.a,fl:=q.fl,nu:=q.nu,de:=q.de,top:=q.top} (f+a_ (i+1)) (aM λi=>bif b_ i f then ae (aM (ae V)) i else ae c (i-f)))){l}(o:l=(da {nw:=q.nw,C:=λj k=>bV (au q.C j) k,ng:=q.ng,G:=λj=>q.G j,a:=q.a,fl:=q.fl,nu:=q.nu,de:=q.de,top:=q.top} (f+a_ (i+1)) (aM λi=>bif b_ i f then ae (aM (ae V)) i else ae c (i-f)))){m}(p:m=((z (q.nw=q.nw)&&true&&g_ (d_ q.nw) λi=>z (q.C i 0=q.C i 0)&&(z (q.C i 1=q.C i 1)&&(z (q.C i 2=q.C i 2)&&true)))&&((z (q.ng=q.ng)&&true&&g_ (d_ q.ng) λi=>z (q.G i=q.G i)&&true)&&(z (q.a=q.a)&&(z (q.fl=q.fl)&&(z (q.nu=q.nu)&&(z (q.de=q.de)&&(z (q.top=q.top)&&true)))))))):(kr [fS,cw,cu,bR,mR,fO] [] 96 12001 19 (kD 97 98 99 q f g V c d e) (λ_=>kE 97 98 99 q a b) (λi=>i+1) Q i)=(ah (z (i<M g)) (B (b_ 0 f&&p_ f f&&bA f (ae V)&&p_ f 1000000000000&&true&&true) (B m (B (aN c_ (i+1)) (B (z (0<=i+1)&&z (i+1<=M g)) (B (z (0<=i+1)&&z (i+1<=M g)) (B (z (a_ (i+1)=a_ (i+1))&&true) (B (z (f<=f)&&z (a_ (i+1)<=g)&&true&&z ((f+a_ (i+1))*8<=140737488355328)&&true) (B m (B ((g_ (d_ (f+a_ (i+1))) λi=>bt.free (bif b_ i f then ae (aM (ae V)) i else ae c (i-f)))&&z (f+a_ (i+1)<=f+a_ (i+1))) (B ((oA [m_ q.nw 3 (au q.C),m_ q.ng 1 (aR q.G),f_ c_ q.a,f_ c_ q.fl,e_ q.nu,e_ q.de,f_ c_ q.top]&&eU {nw:=q.nw,C:=λj k=>bV (au q.C j) k,ng:=q.ng,G:=λj=>q.G j,a:=q.a,fl:=q.fl,nu:=q.nu,de:=q.de,top:=q.top}&&bA (f+a_ (i+1)) λi=>bif b_ i f then ae (aM (ae V)) i else ae c (i-f))&&bX (f+a_ (i+1)) (aM λi=>bif b_ i f then ae (aM (ae V)) i else ae c (i-f))) (B (bJ h l&&bJ (d i) (e i)) (ah (z (bw (ao h) (ao l) (ao (d i)) (ao (e i))<0)) (B (aN c_ (i+1)) (bI h (d (i+1)) (bI l (e (i+1)) (zyN g (zyR g (ae c) (zyN f (an f (ae (aM (ae V))) (ae V)/\zyB [] (zyB [] (zyN q.nw (zyR q.nw (au q.C) (zyN q.ng (zyR q.ng (aR q.G) (zyI q.a (zyI q.fl (zyB q.nu (zyB q.de (zyI q.top (zyB [48] (zyB [49] (zyR 5 aA (zyI (M g) (zyN f (zyI (i+1) (zyN g Q)))))))))))))))))))))))) (B (aN c_ (i+1)) (bI (d i) (d (i+1)) (bI (e i) (e (i+1)) (zyN g (zyR g (ae c) (zyN f (an f (ae (aM (ae V))) (ae V)/\zyB [] (zyB [] (zyN q.nw (zyR q.nw (au q.C) (zyN q.ng (zyR q.ng (aR q.G) (zyI q.a (zyI q.fl (zyB q.nu (zyB q.de (zyI q.top (zyB [48] (zyB [49] (zyR 5 aA (zyI (M g) (zyN f (zyI (i+1) (zyN g Q)))))))))))))))))))))))))))))))))))) (bI (d i) a (bI (e i) b (zyB [] (zyB [] (zyN q.nw (zyR q.nw (au q.C) (zyN q.ng (zyR q.ng (aR q.G) (zyI q.a (zyI q.fl (zyB q.nu (zyB q.de (zyI q.top (zyB [48] (zyB [49] (zyR 5 aA True))))))))))))))))):=by subst_vars;kernel_rfl
def rO(q:Query)(f:Nat)(c:Nat->Int)(d e:Int->List UInt8)(a b:List UInt8)(i:Int)(Q:Prop){g}(m:g=(c8 {nw:=q.nw,C:=λj k=>bV (au q.C j) k,ng:=q.ng,G:=λj=>q.G j,a:=q.a,fl:=q.fl,nu:=q.nu,de:=q.de,top:=q.top} (a_ (i+1)) (aM λi=>bif b_ i 0 then []else ae c (i-0)))){h}(n:h=(da {nw:=q.nw,C:=λj k=>bV (au q.C j) k,ng:=q.ng,G:=λj=>q.G j,a:=q.a,fl:=q.fl,nu:=q.nu,de:=q.de,top:=q.top} (a_ (i+1)) (aM λi=>bif b_ i 0 then []else ae c (i-0)))){l}(o:l=((z (q.nw=q.nw)&&true&&g_ (d_ q.nw) λi=>z (q.C i 0=q.C i 0)&&(z (q.C i 1=q.C i 1)&&(z (q.C i 2=q.C i 2)&&true)))&&((z (q.ng=q.ng)&&true&&g_ (d_ q.ng) λi=>z (q.G i=q.G i)&&true)&&(z (q.a=q.a)&&(z (q.fl=q.fl)&&(z (q.nu=q.nu)&&(z (q.de=q.de)&&(z (q.top=q.top)&&true)))))))):(kr [fS,cw,cu,bR,mR,fO] [] 96 12001 18 (kF 97 98 99 q f c d e) (λ_=>kG 97 98 99 q a b) (λi=>i+1) Q i)=(ah (z (i<M f)) (B l (B (aN c_ (i+1)) (B (z (0<=i+1)&&z (i+1<=M f)) (B (z (0<=i+1)&&z (i+1<=M f)) (B (z (a_ (i+1)=a_ (i+1))&&true) (B (z (a_ (i+1)<=f)&&true&&z ((0+a_ (i+1))*8<=140737488355328)&&true) (B l (B ((g_ (d_ (0+a_ (i+1))) λi=>bt.free (bif b_ i 0 then []else ae c (i-0)))&&z (a_ (i+1)<=0+a_ (i+1))) (B ((oA [m_ q.nw 3 (au q.C),m_ q.ng 1 (aR q.G),f_ c_ q.a,f_ c_ q.fl,e_ q.nu,e_ q.de,f_ c_ q.top]&&eU {nw:=q.nw,C:=λj k=>bV (au q.C j) k,ng:=q.ng,G:=λj=>q.G j,a:=q.a,fl:=q.fl,nu:=q.nu,de:=q.de,top:=q.top}&&bA (a_ (i+1)) λi=>bif b_ i 0 then []else ae c (i-0))&&bX (a_ (i+1)) (aM λi=>bif b_ i 0 then []else ae c (i-0))) (B (bJ g h&&bJ (d i) (e i)) (ah (z (bw (ao g) (ao h) (ao (d i)) (ao (e i))<0)) (B (aN c_ (i+1)) (bI g (d (i+1)) (bI h (e (i+1)) (zyN f (zyR f (ae c) (zyB [] (zyB [] (zyN q.nw (zyR q.nw (au q.C) (zyN q.ng (zyR q.ng (aR q.G) (zyI q.a (zyI q.fl (zyB q.nu (zyB q.de (zyI q.top (zyB [48] (zyB [49] (zyR 5 aA (zyI (M f) (zyI (i+1) (zyN f Q)))))))))))))))))))))) (B (aN c_ (i+1)) (bI (d i) (d (i+1)) (bI (e i) (e (i+1)) (zyN f (zyR f (ae c) (zyB [] (zyB [] (zyN q.nw (zyR q.nw (au q.C) (zyN q.ng (zyR q.ng (aR q.G) (zyI q.a (zyI q.fl (zyB q.nu (zyB q.de (zyI q.top (zyB [48] (zyB [49] (zyR 5 aA (zyI (M f) (zyI (i+1) (zyN f Q))))))))))))))))))))))))))))))))) (bI (d i) a (bI (e i) b (zyB [] (zyB [] (zyN q.nw (zyR q.nw (au q.C) (zyN q.ng (zyR q.ng (aR q.G) (zyI q.a (zyI q.fl (zyB q.nu (zyB q.de (zyI q.top (zyB [48] (zyB [49] (zyR 5 aA True))))))))))))))))):=by subst_vars;kernel_rfl
def Nw(q:Query)(k:Nat)(L G:Nat->Int)(C:Nat->Bool)(h l:Int->Nat)(V c:Nat->Int)(g f:Nat)(d e:Int->List UInt8)(a b:List UInt8)(Q:AV->Prop):(kq [fS,cw,cu,bR,mR,fO] [(3001,16,pQ 97 98 99 q k L G C h l V c 0,pR 97 98 99 q g f V c),(12001,19,kD 97 98 99 q g f V (bQ f c) d e 0,kE 97 98 99 q a b)] 96 [.agg (aY q),.ab k 3 (az L G C),.fn 97 [] [],.fn 95 [] [],.fn 98 [] [],.fn 99 [] []] Q)=(aE PP II false (aD II 96 3001) 16 (pQ 97 98 99 q k L G C h l V c 0) (pR 97 98 99 q g f V c)/\ax (l 0) 0 (ax (h 0) 0 (zyB [] (zyB [] (zyN q.nw (zyR q.nw (au q.C) (zyN q.ng (zyR q.ng (aR q.G) (zyI q.a (zyI q.fl (zyB q.nu (zyB q.de (zyI q.top (zyB [48] (zyB [49] (zyR 5 aA (zyI (M k) (ax (h 0) 0 (zyN k (zyR k (az L G C) (ax (l 0) 0 (B (bA f (ae c)&&s_ f f&&b_ f 4611686018427387904&&true&&true) (B ((g_ (d_ g) λi=>bt.free (ae V i))&&z (g<=g)) (B (oA [m_ q.nw 3 (au q.C),m_ q.ng 1 (aR q.G),f_ c_ q.a,f_ c_ q.fl,e_ q.nu,e_ q.de,f_ c_ q.top]&&eU {nw:=q.nw,C:=λj k=>bV (au q.C j) k,ng:=q.ng,G:=λj=>q.G j,a:=q.a,fl:=q.fl,nu:=q.nu,de:=q.de,top:=q.top}&&bA g (ae V)&&bX g (aM (ae V))) (aE PP II false (aD II 96 12001) 19 (kD 97 98 99 q g f V (bQ f c) d e 0) (kE 97 98 99 q a b)/\bI (c8 {nw:=q.nw,C:=λj k=>bV (au q.C j) k,ng:=q.ng,G:=λj=>q.G j,a:=q.a,fl:=q.fl,nu:=q.nu,de:=q.de,top:=q.top} g (aM (ae V))) (d 0) (bI (da {nw:=q.nw,C:=λj k=>bV (au q.C j) k,ng:=q.ng,G:=λj=>q.G j,a:=q.a,fl:=q.fl,nu:=q.nu,de:=q.de,top:=q.top} g (aM (ae V))) (e 0) (zyN f (an f (ae (bQ f (aM (ae c)))) (ae (bQ f c))/\zyN g (zyR g (ae V) (zyB [] (zyB [] (zyN q.nw (zyR q.nw (au q.C) (zyN q.ng (zyR q.ng (aR q.G) (zyI q.a (zyI q.fl (zyB q.nu (zyB q.de (zyI q.top (zyB [48] (zyB [49] (zyR 5 aA (zyI (M f) (zyN g (zyN f (Q (r_ [e_ a,e_ b])))))))))))))))))))))))))))))))))))))))))))))))):=U
def Jo(q:Query)(k:Nat)(L G:Nat->Int)(c d:Int->List UInt8)(a b:List UInt8)(Q:AV->Prop):(kq [fS,cw,cu,bR,mR,fO] [(3001,16,kB 97 98 99 q k L G 0,kC 97 98 99 q k L),(12001,18,kF 97 98 99 q k (bQ k L) c d 0,kG 97 98 99 q a b)] 96 [.agg (aY q),.ab k 3 (az L G λ_=>false),.fn 97 [] [],.fn 95 [] [],.fn 98 [] [],.fn 99 [] []] Q)=(aE PP II false (aD II 96 3001) 16 (kB 97 98 99 q k L G 0) (kC 97 98 99 q k L)/\zyB [] (zyB [] (zyN q.nw (zyR q.nw (au q.C) (zyN q.ng (zyR q.ng (aR q.G) (zyI q.a (zyI q.fl (zyB q.nu (zyB q.de (zyI q.top (zyB [48] (zyB [49] (zyR 5 aA (zyI (M k) (zyN k (zyR k (az L G λx=>false) (B (bA k (ae L)&&s_ k k&&b_ k 4611686018427387904&&true&&true) (B (oA [m_ q.nw 3 (au q.C),m_ q.ng 1 (aR q.G),f_ c_ q.a,f_ c_ q.fl,e_ q.nu,e_ q.de,f_ c_ q.top]&&eU {nw:=q.nw,C:=λj k=>bV (au q.C j) k,ng:=q.ng,G:=λj=>q.G j,a:=q.a,fl:=q.fl,nu:=q.nu,de:=q.de,top:=q.top}) (aE PP II false (aD II 96 12001) 18 (kF 97 98 99 q k (bQ k L) c d 0) (kG 97 98 99 q a b)/\bI (c8 {nw:=q.nw,C:=λj k=>bV (au q.C j) k,ng:=q.ng,G:=λj=>q.G j,a:=q.a,fl:=q.fl,nu:=q.nu,de:=q.de,top:=q.top} 0 λx=>0) (c 0) (bI (da {nw:=q.nw,C:=λj k=>bV (au q.C j) k,ng:=q.ng,G:=λj=>q.G j,a:=q.a,fl:=q.fl,nu:=q.nu,de:=q.de,top:=q.top} 0 λx=>0) (d 0) (zyN k (an k (ae (bQ k (aM (ae L)))) (ae (bQ k L))/\zyB [] (zyB [] (zyN q.nw (zyR q.nw (au q.C) (zyN q.ng (zyR q.ng (aR q.G) (zyI q.a (zyI q.fl (zyB q.nu (zyB q.de (zyI q.top (zyB [48] (zyB [49] (zyR 5 aA (zyI (M k) (zyN k (Q (r_ [e_ a,e_ b])))))))))))))))))))))))))))))))))))))))):=U
def wL(q:Query)(k:Nat)(L G:Nat->Int)(C:Nat->Bool)(c d:Int->Nat)(V b:Nat->Int)(f g:Nat)(i:Int)(Q:Prop):(kr [fS,cw,cu,bR,je,fP] [] 96 3001 16 (pQ 100 101 102 q k L G C c d V b) (λ_=>pR 100 101 102 q f g V b) (λi=>i+1) Q i)=(ah (z (i<M k)) (B (z (0<=i)&&z (i<M k)) (ah (C i.toNat) (B (z (c i<=c i)&&true&&true&&z ((c i+1)*8<=140737488355328)&&true) (B (aN c_ (i+1)) (ax (d i) (d (i+1)) (zyR (d i) (ae b) (ax (c i+1) (c (i+1)) (an (c i+1) (λe=>bif b_ e (c i)then ae V e else n_ 1 (o_ (0+(e-c i)*1) [f_ c_ (G i.toNat)])) (ae V)/\zyB [] (zyB [] (zyN q.nw (zyR q.nw (au q.C) (zyN q.ng (zyR q.ng (aR q.G) (zyI q.a (zyI q.fl (zyB q.nu (zyB q.de (zyI q.top (zyB [48] (zyB [49] (zyR 5 aA (zyI (M k) (ax (c i+1) (c (i+1)) (zyN k (zyR k (az L G C) (zyI (i+1) (ax (d i) (d (i+1)) Q))))))))))))))))))))))))) (B (z (d i<=d i)&&true&&true&&z ((d i+1)*8<=140737488355328)&&true) (B (aN c_ (i+1)) (ax (d i+1) (d (i+1)) (an (d i+1) (λe=>bif b_ e (d i)then ae b e else n_ 1 (o_ (0+(e-d i)*1) [f_ c_ (G i.toNat)])) (ae b)/\ax (c i) (c (i+1)) (zyR (c i) (ae V) (zyB [] (zyB [] (zyN q.nw (zyR q.nw (au q.C) (zyN q.ng (zyR q.ng (aR q.G) (zyI q.a (zyI q.fl (zyB q.nu (zyB q.de (zyI q.top (zyB [48] (zyB [49] (zyR 5 aA (zyI (M k) (ax (c i) (c (i+1)) (zyN k (zyR k (az L G C) (zyI (i+1) (ax (d i+1) (d (i+1)) Q))))))))))))))))))))))))))) (ax (d i) g (zyR (d i) (ae b) (ax (c i) f (zyR (c i) (ae V) (zyB [] (zyB [] (zyN q.nw (zyR q.nw (au q.C) (zyN q.ng (zyR q.ng (aR q.G) (zyI q.a (zyI q.fl (zyB q.nu (zyB q.de (zyI q.top (zyB [48] (zyB [49] (zyR 5 aA (ax (c i) f (ax (d i) g True))))))))))))))))))))):=U
def ue(q:Query)(k:Nat)(L G:Nat->Int)(i:Int)(Q:Prop):(kr [fS,cw,cu,bR,je,fP] [] 96 3001 16 (kB 100 101 102 q k L G) (λ_=>kC 100 101 102 q k G) (λi=>i+1) Q i)=(ah (z (i<M k)) (B (z (0<=i)&&z (i<M k)) (B (z (i.toNat<=i.toNat)&&true&&true&&z ((i.toNat+1)*8<=140737488355328)&&true) (B (aN c_ (i+1)) (ax (i.toNat+1) (a_ (i+1)) (an (i.toNat+1) (λb=>bif b_ b i.toNat then ae G b else n_ 1 (o_ (0+(b-i.toNat)*1) [f_ c_ (G i.toNat)])) (ae G)/\zyB [] (zyB [] (zyN q.nw (zyR q.nw (au q.C) (zyN q.ng (zyR q.ng (aR q.G) (zyI q.a (zyI q.fl (zyB q.nu (zyB q.de (zyI q.top (zyB [48] (zyB [49] (zyR 5 aA (zyI (M k) (zyN k (zyR k (az L G λx=>false) (zyI (i+1) (ax (i.toNat+1) (a_ (i+1)) Q))))))))))))))))))))))) (ax i.toNat k (zyR i.toNat (ae G) (zyB [] (zyB [] (zyN q.nw (zyR q.nw (au q.C) (zyN q.ng (zyR q.ng (aR q.G) (zyI q.a (zyI q.fl (zyB q.nu (zyB q.de (zyI q.top (zyB [48] (zyB [49] (zyR 5 aA (ax i.toNat k True)))))))))))))))))):=U
def uf(q:Query)(f g:Nat)(V c:Nat->Int)(d e:Int->List UInt8)(a b:List UInt8)(i:Int)(Q:Prop){h}(n:h=(c8 {nw:=q.nw,C:=λj k=>bV (au q.C j) k,ng:=q.ng,G:=λj=>q.G j,a:=q.a,fl:=q.fl,nu:=q.nu,de:=q.de,top:=q.top} (f+a_ (i+1)) (aM λi=>bif b_ i f then ae (aM (ae V)) i else ae c (i-f)))){l}(o:l=(da {nw:=q.nw,C:=λj k=>bV (au q.C j) k,ng:=q.ng,G:=λj=>q.G j,a:=q.a,fl:=q.fl,nu:=q.nu,de:=q.de,top:=q.top} (f+a_ (i+1)) (aM λi=>bif b_ i f then ae (aM (ae V)) i else ae c (i-f)))){m}(p:m=((z (q.nw=q.nw)&&true&&g_ (d_ q.nw) λi=>z (q.C i 0=q.C i 0)&&(z (q.C i 1=q.C i 1)&&(z (q.C i 2=q.C i 2)&&true)))&&((z (q.ng=q.ng)&&true&&g_ (d_ q.ng) λi=>z (q.G i=q.G i)&&true)&&(z (q.a=q.a)&&(z (q.fl=q.fl)&&(z (q.nu=q.nu)&&(z (q.de=q.de)&&(z (q.top=q.top)&&true)))))))):(kr [fS,cw,cu,bR,je,fP] [] 96 12001 19 (kD 100 101 102 q f g V c d e) (λ_=>kE 100 101 102 q a b) (λi=>i+1) Q i)=(ah (z (i<M g)) (B (b_ 0 f&&p_ f f&&bA f (ae V)&&p_ f 1000000000000&&true&&true) (B m (B (aN c_ (i+1)) (B (z (0<=i+1)&&z (i+1<=M g)) (B (z (0<=i+1)&&z (i+1<=M g)) (B (z (a_ (i+1)=a_ (i+1))&&true) (B (z (f<=f)&&z (a_ (i+1)<=g)&&true&&z ((f+a_ (i+1))*8<=140737488355328)&&true) (B m (B ((g_ (d_ (f+a_ (i+1))) λi=>bt.free (bif b_ i f then ae (aM (ae V)) i else ae c (i-f)))&&z (f+a_ (i+1)<=f+a_ (i+1))) (B ((oA [m_ q.nw 3 (au q.C),m_ q.ng 1 (aR q.G),f_ c_ q.a,f_ c_ q.fl,e_ q.nu,e_ q.de,f_ c_ q.top]&&eU {nw:=q.nw,C:=λj k=>bV (au q.C j) k,ng:=q.ng,G:=λj=>q.G j,a:=q.a,fl:=q.fl,nu:=q.nu,de:=q.de,top:=q.top}&&bA (f+a_ (i+1)) λi=>bif b_ i f then ae (aM (ae V)) i else ae c (i-f))&&bX (f+a_ (i+1)) (aM λi=>bif b_ i f then ae (aM (ae V)) i else ae c (i-f))) (B (bJ h l&&bJ (d i) (e i)) (ah (z (bw (ao h) (ao l) (ao (d i)) (ao (e i))>0)) (B (aN c_ (i+1)) (bI h (d (i+1)) (bI l (e (i+1)) (zyN g (zyR g (ae c) (zyN f (an f (ae (aM (ae V))) (ae V)/\zyB [] (zyB [] (zyN q.nw (zyR q.nw (au q.C) (zyN q.ng (zyR q.ng (aR q.G) (zyI q.a (zyI q.fl (zyB q.nu (zyB q.de (zyI q.top (zyB [48] (zyB [49] (zyR 5 aA (zyI (M g) (zyN f (zyI (i+1) (zyN g Q)))))))))))))))))))))))) (B (aN c_ (i+1)) (bI (d i) (d (i+1)) (bI (e i) (e (i+1)) (zyN g (zyR g (ae c) (zyN f (an f (ae (aM (ae V))) (ae V)/\zyB [] (zyB [] (zyN q.nw (zyR q.nw (au q.C) (zyN q.ng (zyR q.ng (aR q.G) (zyI q.a (zyI q.fl (zyB q.nu (zyB q.de (zyI q.top (zyB [48] (zyB [49] (zyR 5 aA (zyI (M g) (zyN f (zyI (i+1) (zyN g Q)))))))))))))))))))))))))))))))))))) (bI (d i) a (bI (e i) b (zyB [] (zyB [] (zyN q.nw (zyR q.nw (au q.C) (zyN q.ng (zyR q.ng (aR q.G) (zyI q.a (zyI q.fl (zyB q.nu (zyB q.de (zyI q.top (zyB [48] (zyB [49] (zyR 5 aA True))))))))))))))))):=by subst_vars;kernel_rfl
def rP(q:Query)(f:Nat)(c:Nat->Int)(d e:Int->List UInt8)(a b:List UInt8)(i:Int)(Q:Prop){g}(m:g=(c8 {nw:=q.nw,C:=λj k=>bV (au q.C j) k,ng:=q.ng,G:=λj=>q.G j,a:=q.a,fl:=q.fl,nu:=q.nu,de:=q.de,top:=q.top} (a_ (i+1)) (aM λi=>bif b_ i 0 then []else ae c (i-0)))){h}(n:h=(da {nw:=q.nw,C:=λj k=>bV (au q.C j) k,ng:=q.ng,G:=λj=>q.G j,a:=q.a,fl:=q.fl,nu:=q.nu,de:=q.de,top:=q.top} (a_ (i+1)) (aM λi=>bif b_ i 0 then []else ae c (i-0)))){l}(o:l=((z (q.nw=q.nw)&&true&&g_ (d_ q.nw) λi=>z (q.C i 0=q.C i 0)&&(z (q.C i 1=q.C i 1)&&(z (q.C i 2=q.C i 2)&&true)))&&((z (q.ng=q.ng)&&true&&g_ (d_ q.ng) λi=>z (q.G i=q.G i)&&true)&&(z (q.a=q.a)&&(z (q.fl=q.fl)&&(z (q.nu=q.nu)&&(z (q.de=q.de)&&(z (q.top=q.top)&&true)))))))):(kr [fS,cw,cu,bR,je,fP] [] 96 12001 18 (kF 100 101 102 q f c d e) (λ_=>kG 100 101 102 q a b) (λi=>i+1) Q i)=(ah (z (i<M f)) (B l (B (aN c_ (i+1)) (B (z (0<=i+1)&&z (i+1<=M f)) (B (z (0<=i+1)&&z (i+1<=M f)) (B (z (a_ (i+1)=a_ (i+1))&&true) (B (z (a_ (i+1)<=f)&&true&&z ((0+a_ (i+1))*8<=140737488355328)&&true) (B l (B ((g_ (d_ (0+a_ (i+1))) λi=>bt.free (bif b_ i 0 then []else ae c (i-0)))&&z (a_ (i+1)<=0+a_ (i+1))) (B ((oA [m_ q.nw 3 (au q.C),m_ q.ng 1 (aR q.G),f_ c_ q.a,f_ c_ q.fl,e_ q.nu,e_ q.de,f_ c_ q.top]&&eU {nw:=q.nw,C:=λj k=>bV (au q.C j) k,ng:=q.ng,G:=λj=>q.G j,a:=q.a,fl:=q.fl,nu:=q.nu,de:=q.de,top:=q.top}&&bA (a_ (i+1)) λi=>bif b_ i 0 then []else ae c (i-0))&&bX (a_ (i+1)) (aM λi=>bif b_ i 0 then []else ae c (i-0))) (B (bJ g h&&bJ (d i) (e i)) (ah (z (bw (ao g) (ao h) (ao (d i)) (ao (e i))>0)) (B (aN c_ (i+1)) (bI g (d (i+1)) (bI h (e (i+1)) (zyN f (zyR f (ae c) (zyB [] (zyB [] (zyN q.nw (zyR q.nw (au q.C) (zyN q.ng (zyR q.ng (aR q.G) (zyI q.a (zyI q.fl (zyB q.nu (zyB q.de (zyI q.top (zyB [48] (zyB [49] (zyR 5 aA (zyI (M f) (zyI (i+1) (zyN f Q)))))))))))))))))))))) (B (aN c_ (i+1)) (bI (d i) (d (i+1)) (bI (e i) (e (i+1)) (zyN f (zyR f (ae c) (zyB [] (zyB [] (zyN q.nw (zyR q.nw (au q.C) (zyN q.ng (zyR q.ng (aR q.G) (zyI q.a (zyI q.fl (zyB q.nu (zyB q.de (zyI q.top (zyB [48] (zyB [49] (zyR 5 aA (zyI (M f) (zyI (i+1) (zyN f Q))))))))))))))))))))))))))))))))) (bI (d i) a (bI (e i) b (zyB [] (zyB [] (zyN q.nw (zyR q.nw (au q.C) (zyN q.ng (zyR q.ng (aR q.G) (zyI q.a (zyI q.fl (zyB q.nu (zyB q.de (zyI q.top (zyB [48] (zyB [49] (zyR 5 aA True))))))))))))))))):=by subst_vars;kernel_rfl
def Nx(q:Query)(k:Nat)(L G:Nat->Int)(C:Nat->Bool)(h l:Int->Nat)(V c:Nat->Int)(g f:Nat)(d e:Int->List UInt8)(a b:List UInt8)(Q:AV->Prop):(kq [fS,cw,cu,bR,je,fP] [(3001,16,pQ 100 101 102 q k L G C h l V c 0,pR 100 101 102 q g f V c),(12001,19,kD 100 101 102 q g f V (cK f c) d e 0,kE 100 101 102 q a b)] 96 [.agg (aY q),.ab k 3 (az L G C),.fn 100 [] [],.fn 95 [] [],.fn 101 [] [],.fn 102 [] []] Q)=(aE PP II false (aD II 96 3001) 16 (pQ 100 101 102 q k L G C h l V c 0) (pR 100 101 102 q g f V c)/\ax (l 0) 0 (ax (h 0) 0 (zyB [] (zyB [] (zyN q.nw (zyR q.nw (au q.C) (zyN q.ng (zyR q.ng (aR q.G) (zyI q.a (zyI q.fl (zyB q.nu (zyB q.de (zyI q.top (zyB [48] (zyB [49] (zyR 5 aA (zyI (M k) (ax (h 0) 0 (zyN k (zyR k (az L G C) (ax (l 0) 0 (B (bA f (ae c)&&s_ f f&&b_ f 4611686018427387904&&true&&true) (B ((g_ (d_ g) λi=>bt.free (ae V i))&&z (g<=g)) (B (oA [m_ q.nw 3 (au q.C),m_ q.ng 1 (aR q.G),f_ c_ q.a,f_ c_ q.fl,e_ q.nu,e_ q.de,f_ c_ q.top]&&eU {nw:=q.nw,C:=λj k=>bV (au q.C j) k,ng:=q.ng,G:=λj=>q.G j,a:=q.a,fl:=q.fl,nu:=q.nu,de:=q.de,top:=q.top}&&bA g (ae V)&&bX g (aM (ae V))) (aE PP II false (aD II 96 12001) 19 (kD 100 101 102 q g f V (cK f c) d e 0) (kE 100 101 102 q a b)/\bI (c8 {nw:=q.nw,C:=λj k=>bV (au q.C j) k,ng:=q.ng,G:=λj=>q.G j,a:=q.a,fl:=q.fl,nu:=q.nu,de:=q.de,top:=q.top} g (aM (ae V))) (d 0) (bI (da {nw:=q.nw,C:=λj k=>bV (au q.C j) k,ng:=q.ng,G:=λj=>q.G j,a:=q.a,fl:=q.fl,nu:=q.nu,de:=q.de,top:=q.top} g (aM (ae V))) (e 0) (zyN f (an f (ae (cK f (aM (ae c)))) (ae (cK f c))/\zyN g (zyR g (ae V) (zyB [] (zyB [] (zyN q.nw (zyR q.nw (au q.C) (zyN q.ng (zyR q.ng (aR q.G) (zyI q.a (zyI q.fl (zyB q.nu (zyB q.de (zyI q.top (zyB [48] (zyB [49] (zyR 5 aA (zyI (M f) (zyN g (zyN f (Q (r_ [e_ a,e_ b])))))))))))))))))))))))))))))))))))))))))))))))):=U
def Jp(q:Query)(k:Nat)(L G:Nat->Int)(c d:Int->List UInt8)(a b:List UInt8)(Q:AV->Prop):(kq [fS,cw,cu,bR,je,fP] [(3001,16,kB 100 101 102 q k L G 0,kC 100 101 102 q k G),(12001,18,kF 100 101 102 q k (cK k G) c d 0,kG 100 101 102 q a b)] 96 [.agg (aY q),.ab k 3 (az L G λ_=>false),.fn 100 [] [],.fn 95 [] [],.fn 101 [] [],.fn 102 [] []] Q)=(aE PP II false (aD II 96 3001) 16 (kB 100 101 102 q k L G 0) (kC 100 101 102 q k G)/\zyB [] (zyB [] (zyN q.nw (zyR q.nw (au q.C) (zyN q.ng (zyR q.ng (aR q.G) (zyI q.a (zyI q.fl (zyB q.nu (zyB q.de (zyI q.top (zyB [48] (zyB [49] (zyR 5 aA (zyI (M k) (zyN k (zyR k (az L G λx=>false) (B (bA k (ae G)&&s_ k k&&b_ k 4611686018427387904&&true&&true) (B (oA [m_ q.nw 3 (au q.C),m_ q.ng 1 (aR q.G),f_ c_ q.a,f_ c_ q.fl,e_ q.nu,e_ q.de,f_ c_ q.top]&&eU {nw:=q.nw,C:=λj k=>bV (au q.C j) k,ng:=q.ng,G:=λj=>q.G j,a:=q.a,fl:=q.fl,nu:=q.nu,de:=q.de,top:=q.top}) (aE PP II false (aD II 96 12001) 18 (kF 100 101 102 q k (cK k G) c d 0) (kG 100 101 102 q a b)/\bI (c8 {nw:=q.nw,C:=λj k=>bV (au q.C j) k,ng:=q.ng,G:=λj=>q.G j,a:=q.a,fl:=q.fl,nu:=q.nu,de:=q.de,top:=q.top} 0 λx=>0) (c 0) (bI (da {nw:=q.nw,C:=λj k=>bV (au q.C j) k,ng:=q.ng,G:=λj=>q.G j,a:=q.a,fl:=q.fl,nu:=q.nu,de:=q.de,top:=q.top} 0 λx=>0) (d 0) (zyN k (an k (ae (cK k (aM (ae G)))) (ae (cK k G))/\zyB [] (zyB [] (zyN q.nw (zyR q.nw (au q.C) (zyN q.ng (zyR q.ng (aR q.G) (zyI q.a (zyI q.fl (zyB q.nu (zyB q.de (zyI q.top (zyB [48] (zyB [49] (zyR 5 aA (zyI (M k) (zyN k (Q (r_ [e_ a,e_ b])))))))))))))))))))))))))))))))))))))))):=U
end
section
open Go.Sort Go.Shelf Go.Proofs
def dP(n:Nat)(L G:Nat->Int)(C:Nat->Bool):an n (az L G C) (az L G C):=λ_ _ _=>⟨⟨rfl,rfl⟩,⟨rfl,rfl⟩,rfl,trivial⟩
def jB(n:Nat)(V a:Nat->Int)(i:Nat):Int:=bif b_ i n then V i else a (i-n)
def yW(n:Nat)(V a:Nat->Int):(aM λi=>bif b_ i n then ae (aM (ae V)) i else ae a (i-n))=jB n V a:=by
 funext i
 show(match(bif b_ i n then ae (aM (ae V)) i else ae a (i-n))with|[.int c_ n]=>n|_=>0)=(bif b_ i n then V i else a (i-n))
 cases b_ i n<;>rfl
def wM(m n:Nat)(V a:Nat->Int):bA m (λi=>bif b_ i n then ae (aM (ae V)) i else ae a (i-n))=true:=List.all_eq_true.2 λi _=>by
 show(match(bif b_ i n then ae (aM (ae V)) i else ae a (i-n))with|[.int c_ _]=>true|_=>false)=true
 cases b_ i n<;>rfl
def CK(m n:Nat)(V a:Nat->Int):((d_ m).all λi=>bt.free (bif b_ i n then ae (aM (ae V)) i else ae a (i-n)))=true:=List.all_eq_true.2 λi _=>by
 show bt.free (bif b_ i n then ae (aM (ae V)) i else ae a (i-n))=true
 cases b_ i n<;>rfl
def wN(a:Nat->Int):(aM λi=>bif b_ i 0 then []else ae a (i-0))=a:=by
 funext i
 show(match(bif b_ i 0 then []else ae a (i-0))with|[.int c_ n]=>n|_=>0)=a i
 rw[js (lZ i)];rfl
def ug(m:Nat)(a:Nat->Int):bA m (λi=>bif b_ i 0 then []else ae a (i-0))=true:=List.all_eq_true.2 λi _=>by
 show(match(bif b_ i 0 then []else ae a (i-0))with|[.int c_ _]=>true|_=>false)=true
 rw[js (lZ i)];rfl
def yX(m:Nat)(a:Nat->Int):((d_ m).all λi=>bt.free (bif b_ i 0 then []else ae a (i-0)))=true:=List.all_eq_true.2 λi _=>by
 show bt.free (bif b_ i 0 then []else ae a (i-0))=true
 rw[js (lZ i)];rfl
def dD{m n:Nat}{W:Nat->Int}(h:bX n W=true)(d:m<=n):bX m W=true:=by
 obtain⟨e,a⟩:=dW h
 unfold bX
 rw[kV O,z_,t_]
 intro i hi
 obtain⟨b,c⟩:=a i (by have:=List.mem_range.1 hi;omega)
 simp only[bf,bn]
 exact⟨b,c⟩
abbrev qX(q:Query):Query:=⟨q.nw,λj k=>bV (au q.C j) k,q.ng,λj=>q.G j,q.a,q.fl,q.nu,q.de,q.top⟩
def oJ(q:Query)(n:Nat)(W:Nat->Int):c8 ⟨q.nw,λj k=>bV (au q.C j) k,q.ng,λj=>q.G j,q.a,q.fl,q.nu,q.de,q.top⟩ n W=c8 q n W:=rfl
def oK(q:Query)(n:Nat)(W:Nat->Int):da ⟨q.nw,λj k=>bV (au q.C j) k,q.ng,λj=>q.G j,q.a,q.fl,q.nu,q.de,q.top⟩ n W=da q n W:=rfl
def rQ(q:Query):eU ⟨q.nw,λj k=>bV (au q.C j) k,q.ng,λj=>q.G j,q.a,q.fl,q.nu,q.de,q.top⟩=eU q:=rfl
def jt{q:Query}(b:aI 3 q.nw (au q.C)=true)(c:aI 1 q.ng (aR q.G)=true):oA [.ab q.nw 3 (au q.C),.ab q.ng 1 (aR q.G),.int c_ q.a,.int c_ q.fl,.str q.nu,.str q.de,.int c_ q.top]=true:=by
 show(aI 3 q.nw (au q.C)&&aI 1 q.ng (aR q.G))=true
 rw[b,c];rfl
def G1(q:Query):((z (q.nw=q.nw)&&true&&(d_ q.nw).all λi=>z (q.C i 0=q.C i 0)&&(z (q.C i 1=q.C i 1)&&(z (q.C i 2=q.C i 2)&&true)))&&((z (q.ng=q.ng)&&true&&(d_ q.ng).all λi=>z (q.G i=q.G i)&&true)&&(z (q.a=q.a)&&(z (q.fl=q.fl)&&(z (q.nu=q.nu)&&(z (q.de=q.de)&&(z (q.top=q.top)&&true)))))))=true:=zA
def CL(q:Query)(k:Nat)(L G:Nat->Int)(C:Nat->Bool)(b c:Int->Nat)(V a:Nat->Int)(f g:Nat)(i:Int)(m:Nat)(hi:i=(m:Int))(n:m<k)(o:k<=1000)(p:b i<=1000)(r:c i<=1000)
  (ht:C m=true->b (i+1)=b i+1/\V (b i)=L m/\c (i+1)=c i) (j:C m=false->c (i+1)=c i+1/\a (c i)=L m/\b (i+1)=b i) (Q:Prop) (hQ:Q):
  kr [fS,cw,cu,bR,mR,fO] [] 96 3001 16 (pQ 97 98 99 q k L G C b c V a) (λ_=>pR 97 98 99 q f g V a) (λi=>i+1) Q i:=by
 rw[wK]
 have l:a_ i=m:=O
 have s:M k=(k:Int):=rfl
 rw[l]
 have d:aN c_ (i+1)=true:=aq O O
 refine Zg (λ_=>?_) λh=>absurd h O
 refine cC _ _ zN ?_
 refine Zh (λh=>?_) λh=>?_
 ·obtain⟨k1,e,k2⟩:=ht h
  have k1:=k1.symm
  have k2:=k2.symm
  have rows:=ey V (b i) (L m) e.symm
  refine cC _ _ (by rw[bW (dw (b i)),bW (O:(b i+1)*8<=140737488355328)];rfl) (cC _ _ d ?_)
  exact zX
 ·obtain⟨k1,e,k2⟩:=j h
  have k1:=k1.symm
  have k2:=k2.symm
  have rows:=ey a (c i) (L m) e.symm
  refine cC _ _ (by rw[bW (dw (c i)),bW (O:(c i+1)*8<=140737488355328)];rfl) (cC _ _ d ?_)
  exact zX
def Jq(q:Query)(k:Nat)(L G:Nat->Int)(C:Nat->Bool)(b c:Int->Nat)(V a:Nat->Int)(d e:Nat)(i:Int)(hi:i=(k:Int))(k1:b i=d)(k2:c i=e)(Q:Prop):
  kr [fS,cw,cu,bR,mR,fO] [] 96 3001 16 (pQ 97 98 99 q k L G C b c V a) (λ_=>pR 97 98 99 q d e V a) (λi=>i+1) Q i:=by
 rw[wK]
 have f:M k=(k:Int):=rfl
 have hQ:=trivial
 have rows:=trivial
 refine Zg (λh=>absurd h O) λ_=>?_
 exact zX
def AQ(q:Query)(k:Nat)(L G:Nat->Int)(i:Int)(m:Nat)(hi:i=(m:Int))(d:m<k)(e:k<=1000)(Q:Prop)(hQ:Q):
  kr [fS,cw,cu,bR,mR,fO] [] 96 3001 16 (kB 97 98 99 q k L G) (λ_=>kC 97 98 99 q k L) (λi=>i+1) Q i:=by
 rw[uc]
 have b:a_ i=m:=O
 have c:a_ (i+1)=m+1:=O
 have f:M k=(k:Int):=rfl
 rw[b,c]
 have a:aN c_ (i+1)=true:=aq O O
 have k1:=trivial
 have k2:=trivial
 have rows:=ey L m (L m) A
 refine Zg (λ_=>?_) λh=>absurd h O
 refine cC _ _ zN (cC _ _ (by rw[bW (dw m),bW (O:(m+1)*8<=140737488355328)];rfl) (cC _ _ a ?_))
 exact zX
def Fk(q:Query)(k:Nat)(L G:Nat->Int)(i:Int)(hi:i=(k:Int))(Q:Prop):
  kr [fS,cw,cu,bR,mR,fO] [] 96 3001 16 (kB 97 98 99 q k L G) (λ_=>kC 97 98 99 q k L) (λi=>i+1) Q i:=by
 rw[uc]
 have a:M k=(k:Int):=rfl
 have k1:a_ i=k:=O
 have k2:=trivial
 have hQ:=trivial
 have rows:=trivial
 rw[k1]
 refine Zg (λh=>absurd h O) λ_=>?_
 exact zX
def CM(q:Query)(k:Nat)(L G:Nat->Int)(C:Nat->Bool)(b c:Int->Nat)(V a:Nat->Int)(f g:Nat)(i:Int)(m:Nat)(hi:i=(m:Int))(n:m<k)(o:k<=1000)(p:b i<=1000)(r:c i<=1000)
  (ht:C m=true->b (i+1)=b i+1/\V (b i)=G m/\c (i+1)=c i) (j:C m=false->c (i+1)=c i+1/\a (c i)=G m/\b (i+1)=b i) (Q:Prop) (hQ:Q):
  kr [fS,cw,cu,bR,je,fP] [] 96 3001 16 (pQ 100 101 102 q k L G C b c V a) (λ_=>pR 100 101 102 q f g V a) (λi=>i+1) Q i:=by
 rw[wL]
 have l:a_ i=m:=O
 have s:M k=(k:Int):=rfl
 rw[l]
 have d:aN c_ (i+1)=true:=aq O O
 refine Zg (λ_=>?_) λh=>absurd h O
 refine cC _ _ zN ?_
 refine Zh (λh=>?_) λh=>?_
 ·obtain⟨k1,e,k2⟩:=ht h
  have k1:=k1.symm
  have k2:=k2.symm
  have rows:=ey V (b i) (G m) e.symm
  refine cC _ _ (by rw[bW (dw (b i)),bW (O:(b i+1)*8<=140737488355328)];rfl) (cC _ _ d ?_)
  exact zX
 ·obtain⟨k1,e,k2⟩:=j h
  have k1:=k1.symm
  have k2:=k2.symm
  have rows:=ey a (c i) (G m) e.symm
  refine cC _ _ (by rw[bW (dw (c i)),bW (O:(c i+1)*8<=140737488355328)];rfl) (cC _ _ d ?_)
  exact zX
def Jr(q:Query)(k:Nat)(L G:Nat->Int)(C:Nat->Bool)(b c:Int->Nat)(V a:Nat->Int)(d e:Nat)(i:Int)(hi:i=(k:Int))(k1:b i=d)(k2:c i=e)(Q:Prop):
  kr [fS,cw,cu,bR,je,fP] [] 96 3001 16 (pQ 100 101 102 q k L G C b c V a) (λ_=>pR 100 101 102 q d e V a) (λi=>i+1) Q i:=by
 rw[wL]
 have f:M k=(k:Int):=rfl
 have hQ:=trivial
 have rows:=trivial
 refine Zg (λh=>absurd h O) λ_=>?_
 exact zX
def AR(q:Query)(k:Nat)(L G:Nat->Int)(i:Int)(m:Nat)(hi:i=(m:Int))(d:m<k)(e:k<=1000)(Q:Prop)(hQ:Q):
  kr [fS,cw,cu,bR,je,fP] [] 96 3001 16 (kB 100 101 102 q k L G) (λ_=>kC 100 101 102 q k G) (λi=>i+1) Q i:=by
 rw[ue]
 have b:a_ i=m:=O
 have c:a_ (i+1)=m+1:=O
 have f:M k=(k:Int):=rfl
 rw[b,c]
 have a:aN c_ (i+1)=true:=aq O O
 have k1:=trivial
 have k2:=trivial
 have rows:=ey G m (G m) A
 refine Zg (λ_=>?_) λh=>absurd h O
 refine cC _ _ zN (cC _ _ (by rw[bW (dw m),bW (O:(m+1)*8<=140737488355328)];rfl) (cC _ _ a ?_))
 exact zX
def Fl(q:Query)(k:Nat)(L G:Nat->Int)(i:Int)(hi:i=(k:Int))(Q:Prop):
  kr [fS,cw,cu,bR,je,fP] [] 96 3001 16 (kB 100 101 102 q k L G) (λ_=>kC 100 101 102 q k G) (λi=>i+1) Q i:=by
 rw[ue]
 have a:M k=(k:Int):=rfl
 have k1:a_ i=k:=O
 have k2:=trivial
 have hQ:=trivial
 have rows:=trivial
 rw[k1]
 refine Zg (λh=>absurd h O) λ_=>?_
 exact zX
def AS(q:Query)(f g:Nat)(V c:Nat->Int)(d e:Int->List UInt8)(a b:List UInt8)(i:Int)(m:Nat)(hi:i=(m:Int))(x:m<g)(p:0<f)(r:aI 3 q.nw (au q.C)=true)(s:aI 1 q.ng (aR q.G)=true)(n:eU q=true)(o:bX (f+g) (jB f V c)=true)(t:bJ (d i) (e i)=true)
  (u:bw (ao (c8 q (f+(m+1)) (jB f V c))) (ao (da q (f+(m+1)) (jB f V c))) (ao (d i)) (ao (e i))<0->d (i+1)=c8 q (f+(m+1)) (jB f V c)/\e (i+1)=da q (f+(m+1)) (jB f V c)) (hn :¬ bw (ao (c8 q (f+(m+1)) (jB f V c))) (ao (da q (f+(m+1)) (jB f V c))) (ao (d i)) (ao (e i))<0->d (i+1)=d i/\e (i+1)=e i) (Q:Prop) (hQ:Q):
  kr [fS,cw,cu,bR,mR,fO] [] 96 12001 19 (kD 97 98 99 q f g V c d e) (λ_=>kE 97 98 99 q a b) (λi=>i+1) Q i:=by
 obtain⟨y,_⟩:=dW o
 rw[ud _ _ _ _ _ _ _ _ _ _ _ A A A]
 have v:a_ (i+1)=m+1:=O
 have D:M g=(g:Int):=rfl
 have k:=dD o (O:f+(m+1)<=f+g)
 have w:=cz k n
 have j:aN c_ (i+1)=true:=aq O O
 have l:(z (0<=i+1)&&z (i+1<=M g))=true:=by simp only[bf,bn];omega
 have k1:=trivial
 have k2:=trivial
 have rows:=trivial
 rw[v,yW,wM,CK,G1,jt r s,rQ,n,oJ,oK,k,w,t]
 refine Zg (λ_=>?_) λh=>absurd h O
 refine cC _ _ (by rw[eV p,kV (dw f),dy,kV (O:f<=1000000000000)];rfl) ?_
 refine cC _ _ A (cC _ _ j (cC _ _ l (cC _ _ l (cC _ _ (by rw[bW A];rfl) (cC _ _ (by rw[bW (dw f),bW (O:m+1<=g),bW (O:(f+(m+1))*8<=140737488355328)];rfl) (cC _ _ A (cC _ _ (by rw[bW (dw _)];rfl) (cC _ _ A (cC _ _ A ?_)))))))))
 refine Zg (λh=>?_) λh=>?_
 ·have hA:=u h
  refine cC _ _ j ?_
  exact zY
 ·have hA:=hn h
  refine cC _ _ j ?_
  exact zY
def Fm(q:Query)(g f:Nat)(V c:Nat->Int)(d e:Int->List UInt8)(a b:List UInt8)(i:Int)(hi:i=(f:Int))(hA:a=d i/\b=e i)(Q:Prop):
  kr [fS,cw,cu,bR,mR,fO] [] 96 12001 19 (kD 97 98 99 q g f V c d e) (λ_=>kE 97 98 99 q a b) (λi=>i+1) Q i:=by
 rw[ud _ _ _ _ _ _ _ _ _ _ _ A A A]
 have j:M f=(f:Int):=rfl
 have hQ:=trivial
 have k1:=trivial
 have k2:=trivial
 have rows:=trivial
 refine Zg (λh=>absurd h O) λ_=>?_
 exact zY
def xW(q:Query)(f:Nat)(c:Nat->Int)(d e:Int->List UInt8)(a b:List UInt8)(i:Int)(m:Nat)(hi:i=(m:Int))(v:m<f)(o:aI 3 q.nw (au q.C)=true)(p:aI 1 q.ng (aR q.G)=true)(l:eU q=true)(n:bX (f) c=true)(r:bJ (d i) (e i)=true)
  (s:bw (ao (c8 q (m+1) c)) (ao (da q (m+1) c)) (ao (d i)) (ao (e i))<0->d (i+1)=c8 q (m+1) c/\e (i+1)=da q (m+1) c) (hn :¬ bw (ao (c8 q (m+1) c)) (ao (da q (m+1) c)) (ao (d i)) (ao (e i))<0->d (i+1)=d i/\e (i+1)=e i) (Q:Prop) (hQ:Q):
  kr [fS,cw,cu,bR,mR,fO] [] 96 12001 18 (kF 97 98 99 q f c d e) (λ_=>kG 97 98 99 q a b) (λi=>i+1) Q i:=by
 obtain⟨w,_⟩:=dW n
 rw[rO _ _ _ _ _ _ _ _ _ A A A]
 have t:a_ (i+1)=m+1:=O
 have x:M f=(f:Int):=rfl
 have j:=dD n (O:m+1<=f)
 have u:=cz j l
 have g:aN c_ (i+1)=true:=aq O O
 have k:(z (0<=i+1)&&z (i+1<=M f))=true:=by simp only[bf,bn];omega
 have k1:=trivial
 have k2:=trivial
 have rows:=trivial
 rw[t,wN,ug,yX,G1,jt o p,rQ,l,oJ,oK,j,u,r]
 refine Zg (λ_=>?_) λh=>absurd h O
 refine cC _ _ A (cC _ _ g (cC _ _ k (cC _ _ k (cC _ _ (by rw[bW A];rfl) (cC _ _ (by rw[bW (O:m+1<=f),bW (O:(0+(m+1))*8<=140737488355328)];rfl) (cC _ _ A (cC _ _ (by rw[bW (O:m+1<=0+(m+1))];rfl) (cC _ _ A (cC _ _ A ?_)))))))))
 refine Zg (λh=>?_) λh=>?_
 ·have hA:=s h
  refine cC _ _ g ?_
  exact zY
 ·have hA:=hn h
  refine cC _ _ g ?_
  exact zY
def CN(q:Query)(f:Nat)(c:Nat->Int)(d e:Int->List UInt8)(a b:List UInt8)(i:Int)(hi:i=(f:Int))(hA:a=d i/\b=e i)(Q:Prop):
  kr [fS,cw,cu,bR,mR,fO] [] 96 12001 18 (kF 97 98 99 q f c d e) (λ_=>kG 97 98 99 q a b) (λi=>i+1) Q i:=by
 rw[rO _ _ _ _ _ _ _ _ _ A A A]
 have g:M f=(f:Int):=rfl
 have hQ:=trivial
 have k1:=trivial
 have k2:=trivial
 have rows:=trivial
 refine Zg (λh=>absurd h O) λ_=>?_
 exact zY
def AT(q:Query)(f g:Nat)(V c:Nat->Int)(d e:Int->List UInt8)(a b:List UInt8)(i:Int)(m:Nat)(hi:i=(m:Int))(x:m<g)(p:0<f)(r:aI 3 q.nw (au q.C)=true)(s:aI 1 q.ng (aR q.G)=true)(n:eU q=true)(o:bX (f+g) (jB f V c)=true)(t:bJ (d i) (e i)=true)
  (u:bw (ao (c8 q (f+(m+1)) (jB f V c))) (ao (da q (f+(m+1)) (jB f V c))) (ao (d i)) (ao (e i))>0->d (i+1)=c8 q (f+(m+1)) (jB f V c)/\e (i+1)=da q (f+(m+1)) (jB f V c)) (hn :¬ bw (ao (c8 q (f+(m+1)) (jB f V c))) (ao (da q (f+(m+1)) (jB f V c))) (ao (d i)) (ao (e i))>0->d (i+1)=d i/\e (i+1)=e i) (Q:Prop) (hQ:Q):
  kr [fS,cw,cu,bR,je,fP] [] 96 12001 19 (kD 100 101 102 q f g V c d e) (λ_=>kE 100 101 102 q a b) (λi=>i+1) Q i:=by
 obtain⟨y,_⟩:=dW o
 rw[uf _ _ _ _ _ _ _ _ _ _ _ A A A]
 have v:a_ (i+1)=m+1:=O
 have D:M g=(g:Int):=rfl
 have k:=dD o (O:f+(m+1)<=f+g)
 have w:=cz k n
 have j:aN c_ (i+1)=true:=aq O O
 have l:(z (0<=i+1)&&z (i+1<=M g))=true:=by simp only[bf,bn];omega
 have k1:=trivial
 have k2:=trivial
 have rows:=trivial
 rw[v,yW,wM,CK,G1,jt r s,rQ,n,oJ,oK,k,w,t]
 refine Zg (λ_=>?_) λh=>absurd h O
 refine cC _ _ (by rw[eV p,kV (dw f),dy,kV (O:f<=1000000000000)];rfl) ?_
 refine cC _ _ A (cC _ _ j (cC _ _ l (cC _ _ l (cC _ _ (by rw[bW A];rfl) (cC _ _ (by rw[bW (dw f),bW (O:m+1<=g),bW (O:(f+(m+1))*8<=140737488355328)];rfl) (cC _ _ A (cC _ _ (by rw[bW (dw _)];rfl) (cC _ _ A (cC _ _ A ?_)))))))))
 refine Zg (λh=>?_) λh=>?_
 ·have hA:=u h
  refine cC _ _ j ?_
  exact zY
 ·have hA:=hn h
  refine cC _ _ j ?_
  exact zY
def Fo(q:Query)(g f:Nat)(V c:Nat->Int)(d e:Int->List UInt8)(a b:List UInt8)(i:Int)(hi:i=(f:Int))(hA:a=d i/\b=e i)(Q:Prop):
  kr [fS,cw,cu,bR,je,fP] [] 96 12001 19 (kD 100 101 102 q g f V c d e) (λ_=>kE 100 101 102 q a b) (λi=>i+1) Q i:=by
 rw[uf _ _ _ _ _ _ _ _ _ _ _ A A A]
 have j:M f=(f:Int):=rfl
 have hQ:=trivial
 have k1:=trivial
 have k2:=trivial
 have rows:=trivial
 refine Zg (λh=>absurd h O) λ_=>?_
 exact zY
def xX(q:Query)(f:Nat)(c:Nat->Int)(d e:Int->List UInt8)(a b:List UInt8)(i:Int)(m:Nat)(hi:i=(m:Int))(v:m<f)(o:aI 3 q.nw (au q.C)=true)(p:aI 1 q.ng (aR q.G)=true)(l:eU q=true)(n:bX (f) c=true)(r:bJ (d i) (e i)=true)
  (s:bw (ao (c8 q (m+1) c)) (ao (da q (m+1) c)) (ao (d i)) (ao (e i))>0->d (i+1)=c8 q (m+1) c/\e (i+1)=da q (m+1) c) (hn :¬ bw (ao (c8 q (m+1) c)) (ao (da q (m+1) c)) (ao (d i)) (ao (e i))>0->d (i+1)=d i/\e (i+1)=e i) (Q:Prop) (hQ:Q):
  kr [fS,cw,cu,bR,je,fP] [] 96 12001 18 (kF 100 101 102 q f c d e) (λ_=>kG 100 101 102 q a b) (λi=>i+1) Q i:=by
 obtain⟨w,_⟩:=dW n
 rw[rP _ _ _ _ _ _ _ _ _ A A A]
 have t:a_ (i+1)=m+1:=O
 have x:M f=(f:Int):=rfl
 have j:=dD n (O:m+1<=f)
 have u:=cz j l
 have g:aN c_ (i+1)=true:=aq O O
 have k:(z (0<=i+1)&&z (i+1<=M f))=true:=by simp only[bf,bn];omega
 have k1:=trivial
 have k2:=trivial
 have rows:=trivial
 rw[t,wN,ug,yX,G1,jt o p,rQ,l,oJ,oK,j,u,r]
 refine Zg (λ_=>?_) λh=>absurd h O
 refine cC _ _ A (cC _ _ g (cC _ _ k (cC _ _ k (cC _ _ (by rw[bW A];rfl) (cC _ _ (by rw[bW (O:m+1<=f),bW (O:(0+(m+1))*8<=140737488355328)];rfl) (cC _ _ A (cC _ _ (by rw[bW (O:m+1<=0+(m+1))];rfl) (cC _ _ A (cC _ _ A ?_)))))))))
 refine Zg (λh=>?_) λh=>?_
 ·have hA:=s h
  refine cC _ _ g ?_
  exact zY
 ·have hA:=hn h
  refine cC _ _ g ?_
  exact zY
def CP(q:Query)(f:Nat)(c:Nat->Int)(d e:Int->List UInt8)(a b:List UInt8)(i:Int)(hi:i=(f:Int))(hA:a=d i/\b=e i)(Q:Prop):
  kr [fS,cw,cu,bR,je,fP] [] 96 12001 18 (kF 100 101 102 q f c d e) (λ_=>kG 100 101 102 q a b) (λi=>i+1) Q i:=by
 rw[rP _ _ _ _ _ _ _ _ _ A A A]
 have g:M f=(f:Int):=rfl
 have hQ:=trivial
 have k1:=trivial
 have k2:=trivial
 have rows:=trivial
 refine Zg (λh=>absurd h O) λ_=>?_
 exact zY
end
end
end Go.Sx
