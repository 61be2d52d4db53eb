/- Lemmas, part 43. -/
import Derived.Test.YtoijalagmmgkbaaGreatDoorX42
import Derived.OpenShut
import Derived.ReadAgain
import Derived.ChangeStays
import Derived.ChangeSame
import Derived.Deep.Slices
import Derived.WideKeyElems2
import Derived.LaidMore
import Derived.WideShapes
import Derived.Test.YtoijalagmmgkbaaGreatDoorRows
import Derived.LaidSub
import Derived.Lib.LaidTab
set_option linter.all false
set_option linter.defProp false
set_option maxRecDepth 1000000
namespace Go.Sx
open Go
open Option renaming some->M,none->o_,isSome_none->u_
open List renaming mem_cons_of_mem->z,mem_cons_self->b_,range->c_,getElem?_cons_zero->d_,take_succ_cons->e_,take_append_drop->f_,drop_zero->h_,take_zero->i_,map_cons->j_,getElem?_drop->l_,map_nil->m_,not_mem_nil->n_,getElem?_take_of_lt->p_,mem_cons->q_,getElem?_cons_succ->r_,drop_succ_cons->v_,append_assoc->x_,length_take->y_,append_nil->A_,drop_drop->B_
open Go.IntKind renaming i64->a_
open Go.Value renaming int->g_,string->C_
open Int renaming tdiv->k_,toNat->s_,ofNat->z_
open Nat renaming succ_mul->t_,add_sub_cancel->w_,add_assoc->D_
noncomputable section
section
section
variable {q:Query} {k k0:Nat} {F:Nat->ay} {Z:Nat->Int}
theorem abY(ha:q.a=1∨q.a=2)(t:q.top=0)(hq:ct q=true)(u:k<=24)(v:k=Rl k0 F)(B:∀l,l<mY F k->Z l=FV k F l)(hA:TG F k)(g:∀j,j<k->bB (F j)=true)(hS:∀j,P4 (F j))(w:Nat)(W:Nat->Int):
  eu PP II false (aD II 5 17004) 33 (Nw q k F (Ka w W F) (mY F k) Z (r8 q k F) (FM q k F) (oU q k F) 0) Nx:=by
 have f:=aaf v w W
 have rn:=RM q k F
 have C:=λ(i:Nat) (hi:i<r8 q k F)=>abW (Z:=Z) (RN:=r8 q k F) (RA:=FM q k F) (RB:=oU q k F) ha t hq u v B hA g hS w W O hi
 have m:=λ(i:Nat) (hi:i<r8 q k F)=>acT ha t hq g hA hi
 have D:=λi=>aae (p:=mY F k) (FX hq).2.2 u g hS (FM q k F i)
 generalize oU q k F=RB at*
 generalize FM q k F=RA at*
 generalize r8 q k F=RN at*
 refine eu.CS (λ_=>[W4,TL,VK]) (λa=>[(25005,40,Ou q k F (Ka w W F) (mY F k) Z RN RA RB (a:Int) (λc=>MF (λl=>DB q F k (RA a) (We q) (FV k F l)) (λl=>DB q F k (RA a) (Wf q) (FV k F l)) (λl=>YS w W (FV k F l)) (mY F k) c.toNat) 0,Pz q k F (Ka w W F) (mY F k) Z RN RA RB (a:Int) (MF (λl=>DB q F k (RA a) (We q) (FV k F l)) (λl=>DB q F k (RA a) (Wf q) (FV k F l)) (λl=>YS w W (FV k F l)) (mY F k) (2^mY F k)))]) (n:=RN) A λa E Q hQ=>?_
 have er:z_ RN=(RN:Int):=rfl
 have o:=C a
 have rwa:=m a
 obtain⟨tx,ty⟩:=D a
 have mn:=λe=>acQ (x:=λl=>DB q F k (RA a) (We q) (FV k F l)) (y:=λl=>DB q F k (RA a) (Wf q) (FV k F l)) (d:=λl=>YS w W (FV k F l)) (p:=mY F k) (e:=e) λl hl=>(f.2 l hl).1
 have ml:=λe=>adP (x:=λl=>DB q F k (RA a) (We q) (FV k F l)) (y:=λl=>DB q F k (RA a) (Wf q) (FV k F l)) (d:=λl=>YS w W (FV k F l)) (p:=mY F k) (e:=e) λl hl=>(f.2 l hl).1
 generalize hx:(λl=>DB q F k (RA a) (We q) (FV k F l))=x at*
 generalize hy:(λl=>DB q F k (RA a) (Wf q) (FV k F l))=y at*
 generalize G:(λl=>YS w W (FV k F l))=d at*
 have e:=abX q k F (Ka w W F) (mY F k) Z RN RA RB (λc=>MF x y d (mY F k) (s_ c)) (MF x y d (mY F k) (2^mY F k)) (a:Int) Q
 refine Eq.mpr e ?_
 clear e
 rw[show s_ (a:Int)=a from rfl,show s_ 0=0 from rfl]
 try rw[Wv]
 try rw[Xj]
 refine Zg (λh=>?_) λh=>⟨rfl,rfl,trivial⟩
 have b:a<RN:=O
 have hq':=hQ b
 obtain⟨H,r1,I,J⟩:=rwa b
 have bi:(decide ((0:Int)<=(a:Int))&&decide ((a:Int)<z_ RN))=true:=by simp only[bf,bn];omega
 refine cC _ _ A (cC _ _ A (cC _ _ A (cC _ _ A (cC _ _ A (cC _ _ A ⟨o b,?_⟩)))))
 refine Zi (mn 0).symm (Zi (mn 1).symm (Zi (mn 2).symm (Zi (mn 3).symm (Zi (mn 4).symm (Zi (mn 5).symm (Zi (mn 6).symm (Zi (mn 7).symm (Zi (mn 8).symm (Zi (mn 9).symm (Zi (mn 10).symm (Zi (mn 11).symm ?_)))))))))))
 have K:MF x y d (mY F k) (2^mY F k) 0=bu (pM x (mY F k)):=ml 0
 have L:MF x y d (mY F k) (2^mY F k) 1=[49]:=ml 1
 have N:MF x y d (mY F k) (2^mY F k) 2=bu (pM y (mY F k)):=ml 2
 have P:MF x y d (mY F k) (2^mY F k) 3=[49]:=ml 3
 have R:MF x y d (mY F k) (2^mY F k) 4=bu (pM x (mY F k)*pM x (mY F k)+pM (λl=>x l*x l*(d l-1)) (mY F k)):=ml 4
 have S:MF x y d (mY F k) (2^mY F k) 5=[49]:=ml 5
 have T:MF x y d (mY F k) (2^mY F k) 6=bu (pM y (mY F k)*pM y (mY F k)+pM (λl=>y l*y l*(d l-1)) (mY F k)):=ml 6
 have U:MF x y d (mY F k) (2^mY F k) 7=[49]:=ml 7
 have V:MF x y d (mY F k) (2^mY F k) 8=bu (pM (λl=>x l*x l*(d l-1)) (mY F k)):=ml 8
 have X:MF x y d (mY F k) (2^mY F k) 9=[49]:=ml 9
 have r:MF x y d (mY F k) (2^mY F k) 10=bu (pM (λl=>y l*y l*(d l-1)) (mY F k)):=ml 10
 have s:MF x y d (mY F k) (2^mY F k) 11=[49]:=ml 11
 obtain⟨a1,a2,Y,a4,a5,a6⟩:=YP (Zs f tx).1 (Zs f tx).2
 obtain⟨b1,b2,b3,b4,b5,b6⟩:=YP (Zs f ty).1 (Zs f ty).2
 rw[K,L,N,P,R,S,T,U,V,X,r,s,H,r1,I,J,a2,Y,a5,a6,b2,b3,b5,b6,Ut,Ut,Ut,Ut,Ut]
 repeat' (with_reducible first|exact hq'|exact trivial|rfl|exact TB _ _ _|exact bL _ _|exact bC _ _|exact bO _ _|exact aZ|exact eP _ _ _ _|refine Zi A ?_|refine Zf A ?_|refine YG A ?_|refine And.intro ?_ ?_)
 refine cC _ _ a1 (cC _ _ A (cC _ _ a4 (cC _ _ bi (Zh (λh=>absurd h zC) λ_=>cC _ _ A (Zh (λh=>absurd h zC) λ_=>cC _ _ A (cC _ _ b1 (cC _ _ A (cC _ _ b4 (cC _ _ bi (cC _ _ bi (Zh (λh=>absurd h zC) λ_=>cC _ _ A (Zh (λh=>absurd h zC) λ_=>cC _ _ A (cC _ _ (aq O O) ?_)))))))))))))
 exact ZU
end
theorem acX(n:Nat)(X:Nat->Nat->Int)(g agg:Int):∃b,(b=1∨b=2)/\cJ (av (k_ agg 10) 2+5*av agg 2) n X g 0=Bj b (cJ (av (k_ agg 10) 2+5*av agg 2) n X g 0):=by
 have h:=cj (c:=k_ agg 10) (n:=2) O
 have i:=cj (c:=agg) (n:=2) O
 generalize av (k_ agg 10) 2=u at*
 generalize av agg 2=v at*
 have e:∀d,(cJ d n X g 0).top=0:=λd=>by
  show(match decide (z_ (bM (av g 64) 6).length>0)with|true=>av 0 5|false=>0)=0
  split<;>rfl
 have f:(cJ (u+5*v) n X g 0).a=1∨(cJ (u+5*v) n X g 0).a=2:=by
  have:(u=0∨u=1)/\(v=0∨v=1):=O
  obtain⟨rfl|rfl,rfl|rfl⟩:=this
  ·exact Or.inl A
  ·exact Or.inl A
  ·exact Or.inr A
  ·exact Or.inr A
 refine⟨_,f,?_⟩
 exact congrArg (λt=>({Bj (cJ (u+5*v) n X g 0).a (cJ (u+5*v) n X g 0)with top:=t}:Query)) (e (u+5*v))
theorem abZ{b:Int}{q:Query}{k:Nat}{F:Nat->ay}(v:b=1∨b=2)(hq:ct (Bj b q)=true)(n:Nat)(X:Nat->Nat->Int)(m:Nat)(C:Nat->Nat->Int)(agg g top:Int)(w:Nat)(W:Nat->Int)
  (x:aI 3 m (au C)=true) (ha:aN a_ agg=true) (y:aN a_ g=true) (hX:aI 6 n (fm X)=true) (f:intsIn w (ae W)=true)
  (B:cJ (av (k_ agg 10) 2+5*av agg 2) (min m 3) (bG (au C)) g 0=Bj b q) (h:mZ n (bG (fm X))=k) (o:oW n (bG (fm X))=F):
  jE [S7,XE,OE (Bj b q),Hz k F,abq,Vo (Bj b q) (r8 (Bj b q) (Rl k F) F) (FM (Bj b q) (Rl k F) F) (oU (Bj b q) (Rl k F) F)] (mG PP II [(6004,32,LN (Bj b q) k F w W (FV k F) (λi=>mY F i.toNat) 0,LO (Bj b q) F w W (FV k F) (Rl k F) (mY F (Rl k F))),(17004,33,Nw (Bj b q) (Rl k F) F (Ka w W F) (mY F (Rl k F)) (FV k F) (r8 (Bj b q) (Rl k F) F) (FM (Bj b q) (Rl k F) F) (oU (Bj b q) (Rl k F) F) 0,Nx)]) 1000 5 [.agg [.int a_ agg,.ab m 3 (au C),.int a_ g,.int a_ top],.ab n 6 (fm X),.ab w 1 (ae W)] Hm (λa H=>aa (Nat.ble 14 H.n) (a= .bool true)) (λ_ _=>False):=by
 have D:k<=24:=h▸Ra n (bG (fm X))
 have u:Good k F:=h▸o▸zd (bG (fm X)) _
 have E:=aaq k F
 have d:Good (Rl k F) F:=⟨λj p=>u.val j O,λj p=>u.ord j O⟩
 have I:=d.UI O
 have r:=acF (q:=Bj b q) (F:=F) w W (O:k<=400)
 have s:=abY (q:=Bj b q) (k:=Rl k F) (k0:=k) (F:=F) (Z:=FV k F) v A hq O A (λl hl=>acU E hl) d.ord d.val (o▸aa5 n (bG (fm X))) w W
 have J:Bq (Bj b q) (r8 (Bj b q) (Rl k F) F) (FM (Bj b q) (Rl k F) F) (oU (Bj b q) (Rl k F) F) (Rl k F) (λi=>eD (F i))=true:=zO.2 ⟨rfl,rfl,rfl⟩
 have is:qT (Bj b q) [.ab q.nw 3 (au q.C),.ab q.ng 1 (aR q.G),.int a_ b,.int a_ q.fl,.str q.nu,.str q.de,.int a_ 0]=true:=jv (Bj b q)
 have kg:VZ (Rl k F) F w W=true:=by
  unfold VZ
  rw[kV (O:Rl k F<=400),Bool.true_and,bf]
  unfold intsIn at f
  rw[bf]at f
  refine⟨List.all_eq_true.2 λj p=>bW ?_,f.2⟩
  have:=d.val j (List.mem_range.1 p)
  unfold bB at this
  simp only[bf,bn]at this
  omega
 have K:=cj (c:=k_ agg 10) (n:=2) O
 have L:=cj (c:=agg) (n:=2) O
 have t:aN a_ (k_ agg 10)=true:=mM ha O
 generalize r8 (Bj b q) (Rl k F) F=RN at*
 generalize FM (Bj b q) (Rl k F) F=RA at*
 generalize oU (Bj b q) (Rl k F) F=RB at*
 have e:=acW n X m C agg g top w W (FV k F) b q k F (λi=>mY F i.toNat) (Rl k F) (mY F (Rl k F)) RN RA RB (Ka w W F) (λa=>a= .bool true)
 refine Eq.mpr e ?_
 clear e
 dsimp only
 rw[show(bP λi=>eD (F i))=F from rfl,show aM (ae W)=W from rfl,gr,kc,I,J,is,hq,x,y,hX,kg,J3 B,OG h o,t,ha,aq (n:=5*av agg 2) O O,aq (n:=av (k_ agg 10) 2+5*av agg 2) O O]
 have fin:AV.bool true=AV.bool true:=rfl
 have z0:mY F (s_ 0)=0:=rfl
 refine cC _ _ (Bl A A A A A A A A) (cC _ _ A (cC _ _ A (cC _ _ (bW A) (cC _ _ A (cC _ _ A (cC _ _ A (cC _ _ zA (cC _ _ zA (cC _ _ (bW A) (cC _ _ (bW A) (cC _ _ A (cC _ _ A ⟨r,?_⟩))))))))))))
 repeat' (with_reducible first|exact fin|exact trivial|rfl|exact s|exact TB _ _ _|exact nf _ _|exact bL _ _|exact bC _ _|exact bO _ _|exact aZ|exact eP _ _ _ _|refine cC _ _ A ?_|refine Zi A ?_|refine Zf A ?_|refine YG z0 ?_|refine YG A ?_|refine And.intro ?_ ?_)
theorem acY{n:Nat}{X:Nat->Nat->Int}{m:Nat}{C:Nat->Nat->Int}{agg g top:Int}{w:Nat}{W:Nat->Int}(e:aI 3 m (au C)=true)(ha:aN a_ agg=true)(f:aN a_ g=true)(_:aN a_ top=true)(hX:aI 6 n (fm X)=true)(i:intsIn w (ae W)=true):
  af PP II 5 [.agg [.int a_ agg,.ab m 3 (au C),.int a_ g,.int a_ top],.ab n 6 (fm X),.ab w 1 (ae W)] Hm (.ret (.bool true) (AH.blank 14)):=by
 obtain⟨b,j,c⟩:=acX (min m 3) (bG (au C)) g agg
 have h:=abZ (k:=mZ n (bG (fm X))) (F:=oW n (bG (fm X))) j (by rw[<-c];unfold ct;rw[J8,J9,OP];rfl) n X m C agg g top w W e ha f hX i c A A
 obtain⟨o,d,p⟩:=fJ Hs _ (bm PP II _) 1000 5 _ Hm _ _ h
 cases o with
 |ret a H1=>
  obtain⟨k0,k1⟩:=Zk d
  have k1:a= .bool true:=k1
  subst k1
  exact p.le (ky.of [] (im.of A A A A k0 (gS.2 λl _=>trivial)) A)
 |qt a H1=>exact d.elim
end
section
open Go.ChangeShapes Go.WideShapes Go.Deep
section
variable {H:Type} {enc:TypeId×Value->H} {P:Program} {W:World} {sp:Nat->Bool} {held:Bool}
def kU(W a:World):Prop:=a.os=W.os/\a.output=W.output/\∀i,i<W.heap.size->a.heap[i]? =W.heap[i]?
theorem kU.same{a:World}(h:kU W a){p:MemPlace}(c:p.block<W.heap.size):W.sameAt a p:=by
 cases p with
 |cell b off=>show a.cell? _=W.cell? _;unfold World.cell?;rw[h.2.2 b c]
 |map b=>exact h.2.2 b c
theorem kU.frozen{a:World}(h:kU W a){b off:Nat}(c:b<W.heap.size):a.frozen? ⟨b,off,o_⟩=W.frozen? ⟨b,off,o_⟩:=by
 unfold World.frozen?
 rw[h.2.2 b c]
end
end
section
open Go.ChangeShapes Go.WideShapes Go.Deep
def RP(m:Nat)(X:Nat->Nat->Int)(j:Nat):List AV:=(c_ m).map λk=> .int a_ (X j k)
def xB(ρ:Env)(W:World):Prop := ∀b cs el fr,W.heap[b]? =M (.cells cs el fr)->ρ.fz b=M cs.toList
section
variable {H:Type} {enc:TypeId×Value->H} {P:Program} {W:World} {sp:Nat->Bool} {held:Bool}
theorem xC{a}(h:(Lit.int a_ a).wf=true):aN a_ a=true:=by
 unfold aN
 rw[Km,Km]
 exact h
theorem zx{ρ}:∀{m us}{x:Nat->Int},us.length=m->(∀k,k<m->us[k]? =M (.int a_ (x k)))->aU ρ ((c_ m).map λk=> .int a_ (x k)) us
 |0,us,x,hl,_=>by
  have:us=[]:=Y
  subst this;exact A
 |m+1,us,x,hl,h=>by
  match us,hl,h with
  |u::us,hl,h=>
   have a:=h 0 O
   simp only[d_,fE]at a
   rw[List.range_succ_eq_map,j_,List.map_map]
   refine⟨u,us,rfl,a,zx (m:=m) (x:=λk=>x (k+1)) (by simpa using hl) λk b=>?_⟩
   grind
theorem zy{ρ:Env}(E:xB ρ W){t e i m:Nat}{fuel:Nat}{v:Value}{x:DataW H×List MemPlace}(ht:P.underlying t=M (.slice e))(T:P.underlying e=M (.array m i))(hi:P.underlying i=M (.int a_))(U:P.cellsOf i=1)(V:P.cellsOf e=m)(Y:0<m)
  (h:DataW.trod enc P W 0 sp held fuel t [v]=M x):∃(n:Nat)(X:Nat->Nat->Int),VR ρ (.ab n m (RP m X)) v/\∀j,j<n->∀k,k<m->aN a_ (X j k)=true:=by
 rcases open_slice ht h with⟨Z,_⟩|⟨a,len,cap,mm,nn,D,Pl,hv,_,hl,_,F,_,hx⟩
 ·cases Z
  refine⟨0,λ_ _=>0,?_,O⟩
  simp[VR]
 ·cases hv
  have ad:len<=mm:=by rw[F];split<;>omega
  rw[V]at hx
  by_cases w:len=0
  ·subst w
   refine⟨0,λ_ _=>0,?_,O⟩
   simp only[VR]
   simp
  ·have cells:∀j k,j<len->k<m->∃c,W.cell? (a.add (j*m+k))=M (.int a_ c)/\aN a_ c=true:=by
    intro j k f d
    obtain⟨G,C,I⟩:=hx j O
    obtain⟨_,g,hc⟩:=World.cells?_some C
    obtain⟨xs,m',_,_,_,_,J⟩:=DataW.trod_array T I
    have p:=J k d
    rw[U,Nat.mul_one]at p
    have K:k<xs.length:=O
    rw[mo K]at p
    obtain⟨c,L,_,N⟩:=DataW.trod_int hi p
    have Q:G[k]? =M (.int a_ c):=by
     have:=congrArg (·[0]?) L
     simpa [List.getElem?_take,l_]using this
    refine⟨c,?_,xC N⟩
    rw[<-add_add,hc k d];exact Q
   let X:Nat->Nat->Int:=λj k=>match W.cell? (a.add (j*m+k))with|some (.int a_ c)=>c|_=>0
   have hX:∀j k,j<len->k<m->W.cell? (a.add (j*m+k))=M (.int a_ (X j k))/\aN a_ (X j k)=true:=by
    intro j k f d
    obtain⟨c,C,I⟩:=cells j k f d
    have:X j k=c:=by simp only[X];rw[C]
    rw[this];exact⟨C,I⟩
   have o:=(hX 0 0 O Y).1
   have ea:a.add (0*m+0)=a:=by simp[Addr.add]
   rw[ea]at o
   obtain⟨b,off,y⟩:=a
   have q:y=o_/\∃cs el fr,W.heap[b]? =M (.cells cs el fr):=by
    unfold World.cell? at o
    split at o
    ·simp_all
    ·cases o
   obtain⟨rfl,cs,el,fr,S⟩:=q
   have r:∀j k,j<len->k<m->cs.toList[off+(j*m+k)]? =M (.int a_ (X j k)):=by
    intro j k f d
    have:=(hX j k f d).1
    have e1:(Addr.mk b off o_).add (j*m+k)=⟨b,off+(j*m+k),o_⟩:=by
     unfold Addr.add
     by_cases w:j*m+k=0
     ·rw[if_pos w,w];rfl
     ·rw[if_neg w]
    rw[e1]at this
    simp only[World.cell?,S,u_,kH,if_false]at this
    simpa using this
   have s:off+len*m<=cs.toList.length:=by
    have:=(List.getElem?_eq_some_iff.1 (r (len-1) (m-1) O O)).1
    have e2:(len-1)*m+m=len*m:=by
     obtain⟨l,rfl⟩:∃l,len=l+1:=⟨len-1,O⟩
     rw[w_,t_]
    omega
   refine⟨len,X,?_,λj f k d=>(hX j k f d).2⟩
   simp only[VR]
   refine .inr ⟨b,off,cap,⟨b,off,o_⟩,λj=>(cs.toList.drop (off+j*m)).take m,rfl,hl,λ_=>⟨rfl,⟨?_,cs.toList.take off,cs.toList.drop (off+len*m),by rw[y_];omega,?_⟩,λj f=>?_⟩⟩
   ·intro u R
    obtain⟨j,f,R⟩:=List.mem_flatMap.1 R
    have f:=List.mem_range.1 f
    obtain⟨k,d⟩:=List.mem_iff_getElem?.1 R
    have B:k<m:=by
     have:=(List.getElem?_eq_some_iff.1 d).1
     simp at this;omega
    rw[p_ B,l_,D_,r j k f B]at d
    cases d;rfl
   ·rw[E b cs el fr S,rq s,<-B_]
    rw[x_,f_,f_]
   ·have g:((cs.toList.drop (off+j*m)).take m).length=m:=by
     have:j*m+m<=len*m:=by
      have:=Nat.mul_le_mul_right m (show j+1<=len from f)
      rw[t_]at this;exact this
     simp only[y_,List.length_drop];omega
    refine⟨g,zx g λk d=>?_⟩
    rw[p_ d,l_,D_]
    exact r j k f d
theorem aai{d a T}(K:Kids P T)(f:∀{t e},T t->P.underlying t=M (.slice e)->0<P.cellsOf e):∀{c vs ds b},(∀t∈c,T t)->
  DataW.TrodAll enc P W 0 (λ_=>true) true c vs ds b->(∀p∈b,W.sameAt d p)->(∀p∈b,a p.block=true)->DataW.TrodAll enc P d 0 a true c vs ds b
 |[],[],[],_,_,h,_,_=>h
 |_::_,_::_,_::_,_,i,⟨p,q,⟨n,h1⟩,g,e⟩,j,k=>⟨p,q,⟨n,DataW.trod_stays K f (λh=>zE) Y h1 ZD ZD⟩,
   aai K f Y g ZD ZD,e⟩
theorem kU.but{a}(h:kU W a)(may):W.keptBut a may:=by
 refine⟨h.1,h.2.1,λi hi=>?_⟩
 rw[h.2.2 i hi]
 grind
theorem aaz{i:World}{f:Func}{s:ChangeSpec}{apart fresh a h:Bool}{args:Array Value}{v:Value}{ds gs:List (DataW H)}{before:List MemPlace}{T:TypeId->Prop}(K:Kids P T)(E:∀{t e:TypeId},T t->P.underlying t=M (.slice e)->0<P.cellsOf e)(F:∀t∈f.params.toList,T t)
  (c:s.vars=[]) (q:DataW.Whole enc P f.params.toList s.vars apart W args.toList ds gs before) (u:kU W i)
  (g:∀(b:Nat)(sp:Nat->Bool)(G:Bool),DataW.TrodAll enc P i b sp G f.resultTypes.toList (v.resultList f.resultTypes.size) (s.fn H (ds++gs)).results [])
  (w:(s.fn H (ds++gs)).args=ds) (x:(s.fn H (ds++gs)).vars=gs)
  (y:∀(j:Nat)(t:TypeId)(r:Value),f.resultTypes[j]? =M t->(v.resultList f.resultTypes.size)[j]? =M r->Value.okWide P i .any 0 t r):
  s.post enc P f apart fresh a h W args v i:=by
 have k:=q.lt
 have B:=q
 obtain⟨J,L,hA,hV,l,C,hn⟩:=q
 rw[c]at hV
 obtain⟨rfl,rfl⟩:=trodVars_none hV
 rw[A_]at l
 subst l
 have d:∀sp:Nat->Bool,(∀p∈before,sp p.block=true)->DataW.TrodAll enc P i 0 sp true f.params.toList args.toList (s.fn H (ds++[])).args before:=λsp I=>by
  rw[w];exact aai K E F hA (λp D=>u.same (k p D)) I
 have m:∀sp:Nat->Bool,DataW.TrodVars enc P i sp s.vars (s.fn H (ds++[])).vars []:=λsp=>by rw[c,x];exact A
 have n:∀p∈before,(λb=>decide (b<W.heap.size)) p.block=true:=ZD
 refine⟨ds,[],before,[],before,[],B,g _ _ _,d _ n,m _,u.but _,λ_=>?_⟩
 refine⟨y,_,_,([]++before)++[],⟨[]++before,[],trodAll_append (d _ (λ_ _=>rfl)) (g _ _ _),m _,rfl,?_,?_⟩,?_⟩
 ·intro b off D
  have o:MemPlace.cell b off∈before:=by simpa using D
  rw[u.frozen (b:=b) (off:=off) (k _ o)]
  exact C b off o
 all_goals grind
end
end
def HB{a:TypeDesc}{b:Value}:∀{l:List MapEntry}{j i:Nat}{v:Value},Instr.findNow a b l j=M (M (i,v))->∃x∈l,Instr.sameNow a b x.key=M true/\v=x.val
 |[],_,_,_,h=>by simp[Instr.findNow]at h
 |x::l,j,i,v,h=>by
  unfold Instr.findNow at h
  split at h
  ·rename_i c
   simp only[fE,Prod.mk.injEq]at h
   exact⟨x,b_,c,h.2.symm⟩
  ·obtain⟨y,d,e,f⟩:=HB h
   exact⟨y,z _ d,e,f⟩
  ·cases h
def RQ{b:TypeDesc}{c:Value}{n:Int}(h:Instr.sameNow b c (.int a_ n)=M true):∃q,b= .int q/\c= .int a_ n:=by
 cases b<;>cases c<;>simp[Instr.sameNow]at h
 rename_i q k a
 obtain⟨rfl,rfl⟩:=h
 exact⟨q,rfl,rfl⟩
def Gx{q:IntKind}{n:Int}{u:Value}:∀{l:List MapEntry}(_:∀x∈l,∃m,x.key= .int a_ m)(_:∀x∈l,x.key= .int a_ n->x.val=u)(j:Nat)(_:∃x∈l,x.key= .int a_ n),∃i,Instr.findNow (.int q) (.int a_ n) l j=M (M (i,u))
 |[],_,_,_,h=>by obtain⟨x,hx,_⟩:=h;cases hx
 |x::l,h1,d,j,f=>by
  obtain⟨m,b⟩:=h1 x b_
  unfold Instr.findNow
  by_cases e:n=m
  ·subst e
   rw[b]
   simp only[Instr.sameNow,if_true,beq_self_eq_true]
   exact⟨j,by rw[d x b_ b]⟩
  ·rw[b]
   have:(n==m)=false:=by simpa using e
   simp only[Instr.sameNow,if_true,this]
   refine Gx (λy a=>h1 y (z _ a)) (λy a=>d y (z _ a)) (j+1) ?_
   obtain⟨y,a,c⟩:=f
   rcases List.mem_cons.1 a with rfl|a
   ·rw[b]at c;cases c;exact absurd A e
   ·exact⟨y,a,c⟩
def F1{b ms:List MapEntry}(a:∀x∈b,x∈ms)(d:∀x∈ms,∃n,x.key= .int a_ n)(g:∀x∈ms,∀y∈ms,x.key=y.key->x.val=y.val):so b ms:=by
 intro k l i v h
 obtain⟨x,c,f,rfl⟩:=HB h
 obtain⟨n,hn⟩:=d x (a x c)
 rw[hn]at f
 obtain⟨q,rfl,rfl⟩:=RQ f
 exact Gx d (λy j e=>g y j x (a x c) (by rw[e,hn])) 0 ⟨x,a x c,hn⟩
def OS{ms:List MapEntry}{V:Nat->Value}(d:∀x∈ms,∃i:Nat,i<5/\x.key= .int a_ ((i:Int)+1)/\x.val=V i)(b:∀i:Nat,i<5->∃x∈ms,x.key= .int a_ ((i:Int)+1)):
  ∃a:List MapEntry,a.map (·.key)=[.int a_ 1,.int a_ 2,.int a_ 3,.int a_ 4,.int a_ 5]/\a.map (·.val)=[V 0,V 1,V 2,V 3,V 4]/\so a ms:=by
 have val:∀i:Nat,i<5->∀x∈ms,x.key= .int a_ ((i:Int)+1)->x.val=V i:=λi hi x hx e=>by
  obtain⟨j,_,c,f⟩:=d x hx
  rw[c]at e
  have:(j:Int)+1=(i:Int)+1:=by injection e
  have:j=i:=O
  rw[f,this]
 obtain⟨g,n,k0⟩:=b 0 O
 obtain⟨x1,o,k1⟩:=b 1 O
 obtain⟨x2,p,k2⟩:=b 2 O
 obtain⟨h,q,k⟩:=b 3 O
 obtain⟨l,r,m⟩:=b 4 O
 refine⟨[g,x1,x2,h,l],?_,?_,F1 (λx hx=>?_) (λx hx=>?_) λx hx y s e=>?_⟩
 ·simp only[j_,m_,k0,k1,k2,k,m];rfl
 ·simp only[j_,m_,val 0 O g n k0,val 1 O x1 o k1,val 2 O x2 p k2,val 3 O h q k,val 4 O l r m]
 ·simp only[q_,n_,or_false]at hx
  rcases hx with rfl|rfl|rfl|rfl|rfl<;>assumption
 ·obtain⟨i,_,c,_⟩:=d x hx
  exact⟨_,c⟩
 ·obtain⟨i,hi,c,f⟩:=d x hx
  rw[f,val i hi y s (by rw[<-e,c])]
section
open Go.WideShapes
def pN{P k}(a:P.underlying k=M (.int a_)){v n}(h:keyOf P k v=M (.int a_ n)):v= .int a_ n:=by
 unfold keyOf at h
 rw[a]at h
 unfold mapKey at h
 grind
def xD{P W e i w rs x n sp v a b r}{f:FuncId}
  (t:P.underlying e=M (.struct #[i])) (y:i.offset=0) (l:P.cellsOf e=1) (o:P.cellsOf i.type=1) (B:P.underlying i.type=M (.func w rs x))
  (j:((c_ P.funcs.size).filter λf=>(P.funcs[f]?).any (·.name.toUTF8.data.toList==b::r))=[f])
  (h:WideElems.elemAt (funcToken P) P W 0 sp true n e v=M a) (g:a.1= .agg [.held (b::r)]):v= .agg #[.func (.func f) #[] #[]]:=by
 unfold WideElems.elemAt at h
 split at h
 ·rename_i d
  obtain⟨C,m,_,hx,hl,p,q⟩:=DataW.trod_struct t h
  rw[hx]at g
  simp only[DataW.agg.injEq]at g
  match C,p,g with
  |[D],_,g=>
   simp only[j_,m_,List.cons.injEq,and_true]at g
   have k:=q 0 i A
   rw[y,o,h_]at k
   rw[l]at hl
   obtain⟨c,u⟩:∃c,v.cells.toList=[c]:=by
    match E:v.cells.toList,hl with
    |[c],_=>exact⟨c,rfl⟩
   rw[u]at k
   simp only[e_,i_,d_]at k
   obtain⟨x1,x2⟩:=D
   simp only at g
   subst g
   have s:=func_of_trod B j k
   subst s
   unfold Value.formed at d
   cases v with
   |agg cs=>
    have:cs= #[.func (.func f) #[] #[]]:=by
     apply Array.ext'
     exact u
    rw[this]
   |_=>simp[t]at d
 ·cases h
def Kb{P:Program}{W:World}{t k e:TypeId}{D:Field}{I rs:Array TypeId}{J:Bool}{fuel:Nat}{cs:List Value}{p:List MemPlace}{N:Nat->UInt8×List UInt8}{F:Nat->FuncId}
  (ht:P.underlying t=M (.map k e)) (q:P.underlying k=M (.int a_)) (r:P.underlying e=M (.struct #[D])) (s:D.offset=0) (l:P.cellsOf e=1) (m:P.cellsOf D.type=1) (u:P.underlying D.type=M (.func I rs J))
  (c:∀i,i<5->((c_ P.funcs.size).filter λf=>(P.funcs[f]?).any (·.name.toUTF8.data.toList==(N i).1::(N i).2))=[F i])
  (h:DataW.trod (funcToken P) P W 0 (λ_=>true) true fuel t cs=M (.map [(.int a_ 1,.agg [.held ((N 0).1::(N 0).2)]),(.int a_ 2,.agg [.held ((N 1).1::(N 1).2)]),(.int a_ 3,.agg [.held ((N 2).1::(N 2).2)]),(.int a_ 4,.agg [.held ((N 3).1::(N 3).2)]),(.int a_ 5,.agg [.held ((N 4).1::(N 4).2)])],p)):
  ∃b ms j,cs=[.map (M b)]/\W.heap[b]? =M (.map ms j)/\(∀x∈ms.toList,∃i:Nat,i<5/\x.key= .int a_ ((i:Int)+1)/\x.val= .agg #[.func (.func (F i)) #[] #[]])/\∀i:Nat,i<5->∃x∈ms.toList,x.key= .int a_ ((i:Int)+1):=by
 rcases WideElems.open_map ht h with⟨_,hx⟩|⟨b,es,j,n,_,G,K,_,fit,hx⟩
 ·simp at hx
 ·simp only[Prod.mk.injEq,DataW.map.injEq]at hx
  obtain⟨hL,_⟩:=hx
  have perm:=sorted_perm (es.toList.map (WideElems.rg P k (WideElems.elemAt (funcToken P) P W 0 (λ_=>true) true n e)))
  rw[<-hL]at perm
  refine⟨b,es,j,G,K,λx hx=>?_,λi hi=>?_⟩
  ·obtain⟨y,v⟩:=fit.reads x hx
   have E:=perm.mem_iff.2 (List.mem_map.2 ⟨x,hx,WideElems.rg_of v⟩)
   obtain⟨a,w,o⟩:=WideElems.rd_val v
   have g:=WideElems.rd_key v
   simp only[q_,n_,or_false]at E
   rcases E with rfl|rfl|rfl|rfl|rfl
   ·exact⟨0,O,pN q g,xD r s l m u (c 0 O) w o.symm⟩
   ·exact⟨1,O,pN q g,xD r s l m u (c 1 O) w o.symm⟩
   ·exact⟨2,O,pN q g,xD r s l m u (c 2 O) w o.symm⟩
   ·exact⟨3,O,pN q g,xD r s l m u (c 3 O) w o.symm⟩
   ·exact⟨4,O,pN q g,xD r s l m u (c 4 O) w o.symm⟩
  ·have back:∀y∈[((.int a_ 1:Lit),(.agg [.held ((N 0).1::(N 0).2)]:DataW (List UInt8))),(.int a_ 2,.agg [.held ((N 1).1::(N 1).2)]),(.int a_ 3,.agg [.held ((N 2).1::(N 2).2)]),(.int a_ 4,.agg [.held ((N 3).1::(N 3).2)]),(.int a_ 5,.agg [.held ((N 4).1::(N 4).2)])],∃x∈es.toList,keyOf P k x.key=M y.1:=λy v=>by
    obtain⟨x,hx,B⟩:=List.mem_map.1 (perm.mem_iff.1 v)
    obtain⟨L,C⟩:=fit.reads x hx
    rw[WideElems.rg_of C]at B
    subst B
    exact⟨x,hx,WideElems.rd_key C⟩
   have fin:∀n d,((.int a_ n:Lit),(d:DataW (List UInt8)))∈[((.int a_ 1:Lit),(.agg [.held ((N 0).1::(N 0).2)]:DataW (List UInt8))),(.int a_ 2,.agg [.held ((N 1).1::(N 1).2)]),(.int a_ 3,.agg [.held ((N 2).1::(N 2).2)]),(.int a_ 4,.agg [.held ((N 3).1::(N 3).2)]),(.int a_ 5,.agg [.held ((N 4).1::(N 4).2)])]->∃x∈es.toList,x.key= .int a_ n:=λn d E=>by
    obtain⟨x,hx,H⟩:=back _ E
    exact⟨x,hx,pN q H⟩
   grind
end
section
open Go.Deep
def Gy{ρ:Env}{W:World}{a:Addr}{len cap m:Nat}{f:Nat->List AV}(o:xB ρ W)(x:0<m)(hl:len<=cap)
  (c:∀j,j<len->∃us:List Value,us.length=m/\(∀u∈us,u.oneCell'=true)/\aU ρ.bare (f j) us/\∀k,k<m->W.cell? (a.add (j*m+k))=us[k]?):VR ρ (.ab len m f) (.slice (M a) len cap):=by
 by_cases y:len=0
 ·subst y
  simp only[VR]
  exact .inr ⟨0,0,cap,a,λ_=>[],rfl,hl,λh=>absurd h (HD _)⟩
 ·obtain⟨p,G,_,_,c0⟩:=c 0 O
  have d:=c0 0 x
  have B:a.add (0*m+0)=a:=by simp[Addr.add]
  rw[B]at d
  obtain⟨b,off,i⟩:=a
  have e:i=o_/\∃cs el fr,W.heap[b]? =M (.cells cs el fr):=by
   have r:p[0]? ≠o_:=by rw[mo O];exactλh=>zE
   unfold World.cell? at d
   split at d
   ·simp_all
   ·grind
  obtain⟨rfl,cs,el,fr,t⟩:=e
  have e1:∀q,(Addr.mk b off o_).add q=⟨b,off+q,o_⟩:=λq=>by
   unfold Addr.add
   simp
  have row:∀j,j<len->∃us:List Value,us.length=m/\(∀u∈us,u.oneCell'=true)/\aU ρ.bare (f j) us/\off+j*m+m<=cs.toList.length/\(cs.toList.drop (off+j*m)).take m=us:=by
   intro j v
   obtain⟨us,C,D,E,F⟩:=c j v
   have s:∀k,k<m->cs.toList[off+j*m+k]? =us[k]? :=λk w=>by
    have:=F k w
    rw[e1]at this
    simp only[World.cell?,t,u_,kH,if_false]at this
    grind
   have g:off+j*m+m<=cs.toList.length:=by
    have:=s (m-1) O
    rw[mo (O:m-1<us.length)]at this
    have:=(List.getElem?_eq_some_iff.1 this).1
    omega
   refine⟨us,C,D,E,g,?_⟩
   apply List.ext_getElem?
   intro k
   by_cases w:k<m
   ·grind
   ·grind
  have n:off+len*m<=cs.toList.length:=by
   obtain⟨_,_,_,_,h,_⟩:=row (len-1) O
   have H:(len-1)*m+m=len*m:=by
    obtain⟨l,rfl⟩:∃l,len=l+1:=⟨len-1,O⟩
    rw[w_,t_]
   omega
  simp only[VR]
  refine .inr ⟨b,off,cap,⟨b,off,o_⟩,λj=>(cs.toList.drop (off+j*m)).take m,rfl,hl,λ_=>⟨rfl,⟨?_,cs.toList.take off,cs.toList.drop (off+len*m),Y,?_⟩,λj v=>?_⟩⟩
  grind
  ·rw[o b cs el fr t,rq n,<-B_]
   rw[x_,f_,f_]
  grind
def F2{H}{enc:TypeId×Value->H}{P W sp held fuel t c s p}(ht:P.underlying t=M .string)
  (h:DataW.trod enc P W 0 sp held fuel t [c]=M (.lit (.string s),p)):c= .string ⟨s.toArray⟩:=by
 obtain⟨b,a,d,_⟩:=DataW.trod_string ht h
 simp_all
def U0{H}{enc:TypeId×Value->H}{P W sp held fuel t a rs b c p}(ht:P.underlying t=M (.func a rs b))
  (h:DataW.trod enc P W 0 sp held fuel t [c]=M (.nil,p)):c= .nilFunc:=by
 cases fuel with
 |zero=>simp[DataW.trod]at h
 |succ n=>cases c<;>simp[DataW.trod,ht]at h<;>rfl
def Sm{ρ P W e a f1 sp fuel cs x j d1 a0 a1}(m:P.underlying e=M (.struct #[a,f1]))(o:a.offset=0)(q:f1.offset=1)(c0:P.cellsOf a.type=1)(r:P.cellsOf f1.type=1)(s:P.cellsOf e=2)
  (h:DataW.trod (funcToken P) P W 0 sp true fuel e cs=M x) (hx:x.1= .agg [j,d1])
  (t:∀n c p,DataW.trod (funcToken P) P W 0 sp true n a.type [c]=M (j,p)->VR ρ a0 c/\c.oneCell'=true) (v:∀n c p,DataW.trod (funcToken P) P W 0 sp true n f1.type [c]=M (d1,p)->VR ρ a1 c/\c.oneCell'=true):
  ∃us,cs=us/\us.length=2/\(∀u∈us,u.oneCell'=true)/\aU ρ [a0,a1] us:=by
 obtain⟨w,n,_,d,hl,f,b⟩:=DataW.trod_struct m h
 rw[d]at hx
 simp only[DataW.agg.injEq]at hx
 rw[s]at hl
 match w,f,hx with
 |[k,x1],_,hx=>
  match cs,hl with
  |[l,g],_=>
   simp only[j_,m_,List.cons.injEq,and_true]at hx
   have i:=b 0 a A
   have g1:=b 1 f1 A
   rw[o,c0]at i
   rw[q,r]at g1
   simp only[h_,e_,i_,d_]at i
   simp only[v_,h_,e_,i_,r_,d_]at g1
   obtain⟨k,p0⟩:=k
   obtain⟨x1,B⟩:=x1
   obtain⟨rfl,rfl⟩:=hx
   obtain⟨k1,k2⟩:=t _ _ _ i
   obtain⟨y,C⟩:=v _ _ _ g1
   refine⟨[l,g],rfl,rfl,λu D=>?_,⟨l,[g],rfl,k1,g,[],rfl,y,rfl⟩⟩
   grind
def HC{ρ f}{c:Value}(h:c= .func (.func f) #[] #[]):VR ρ (.fn f [] []) c/\c.oneCell'=true:=by
 subst h
 refine⟨?_,rfl⟩
 simp only[VR]
 exact⟨[],[],rfl,rfl,rfl⟩
def Yl{ρ s c}(h:c= .string ⟨s.toArray⟩):VR ρ (.str s) c/\c.oneCell'=true:=by
 subst h
 exact⟨zB,rfl⟩
end
section
open Go.Deep Go.Proofs
open Go.Proofs.YtoijalagmmgkbaaGreatDoor (Rows.answerContainsRow)
def si{P W n d}:∀{l a},DataW.LaidVars P W l a->(n,d)∈l->
  ∃g t cs fuel p,P.globalNamed n=M g/\(P.globals[g]?).map (·.type)=M t/\W.var? P n=M cs/\DataW.trod (λ_=>()) P W 0 (λ_=>true) false fuel t cs.toList=M (d,p)
 |[],_,_,h=>zE
 |(c,f)::l,_,⟨g,t,cs,fuel,p,q,h1,i,j,k,b,_⟩,h=>by
  rcases List.mem_cons.1 h with e|h
  grind
  ·exact si b h
def sj{P W l}(hL:laidMetH P l W){n d}(a:(n,d)∈l)(b:d.handleName?.isNone=true):
  ∃g t cs fuel p,P.globalNamed n=M g/\(P.globals[g]?).map (·.type)=M t/\W.var? P n=M cs/\DataW.trod (λ_=>()) P W 0 (λ_=>true) false fuel t cs.toList=M (d,p):=by
 obtain⟨⟨c,h,_⟩,_⟩:=laidMetH_iff.1 hL
 exact si h Y
def nY{P}{W:World}{n g cs}(a:P.globalNamed n=M g)(h:W.var? P n=M cs):∃el fr,W.heap[g]? =M (.cells cs el fr):=by
 simp only[World.var?,a,Option.bind_some]at h
 grind
def OT{cs}{v:Value}(h:cs.toList=[v]):cs= #[v]:=by
 grind
def Xb:PP.globalNamed "latecomer/answer.zero" =M 0:=U
def Ym:PP.globalNamed "latecomer/query.operators" =M 1:=U
def Xc:PP.globalNamed "latecomer/answer.aggregates" =M 2:=U
def Yn:PP.globalNamed "latecomer/sketch.limits" =M 3:=U
def Y7:PP.globalNamed "latecomer/estimate.zero" =M 4:=U
def Y8:PP.globalNamed "latecomer/estimate.one" =M 5:=U
def Yo:PP.globalNamed "internal/strconv.uint64pow10" =M 8:=U
def Yp:PP.globals.toList.map (·.type)=[30,149,179,202,30,30,211,211,354,3,356,359,362,363]:=U
def F3(g:Nat)(t)(h:([30,149,179,202,30,30,211,211,354,3,356,359,362,363]:List TypeId)[g]? =M t):(PP.globals[g]?).map (·.type)=M t:=by
 rw[<-h,<-Yp,List.getElem?_map,Array.getElem?_toList]
def c3:PP.cellsOf 3=1:=U
def c9:PP.cellsOf 9=1:=U
def c146:PP.cellsOf 146=1:=U
def Yq:PP.cellsOf 100=1:=U
def Yr:PP.cellsOf 178=1:=U
def Ys:PP.cellsOf 261=1:=U
def c148:PP.cellsOf 148=2:=U
def Y9:PP.cellsOf 30=2:=U
def Yt:PP.cellsOf 202=4:=U
def Za:PP.cellsOf 84=6:=U
def c127:PP.cellsOf 127=3:=U
def c24:PP.cellsOf 24=4:=U
def Zb:PP.cellsOf 22=1:=U
def Yu:PP.cellsOf 354=20:=U
def di(c:UInt8):UInt8×List UInt8:=(108,[97,116,101,99,111,109,101,114,47,113,117,101,114,121,46,111,112,101,114,97,116,111,114,115,36,c])
def ig(i:Nat):UInt8×List UInt8:=(108,[97,116,101,99,111,109,101,114,47,97,110,115,119,101,114,46,97,103,103,114,101,103,97,116,101,115,36,match i with|0=>49|1=>50|2=>51|3=>52|_=>53])
def uv(i:Nat):FuncId:=match i with|0=>335|1=>337|2=>339|3=>340|_=>341
def Xd:((c_ PP.funcs.size).filter λf=>(PP.funcs[f]?).any (·.name.toUTF8.data.toList==(di 49).1::(di 49).2))=[331]:=U
def Xe:((c_ PP.funcs.size).filter λf=>(PP.funcs[f]?).any (·.name.toUTF8.data.toList==(di 50).1::(di 50).2))=[332]:=U
def Xf:((c_ PP.funcs.size).filter λf=>(PP.funcs[f]?).any (·.name.toUTF8.data.toList==(di 51).1::(di 51).2))=[333]:=U
def Xg:((c_ PP.funcs.size).filter λf=>(PP.funcs[f]?).any (·.name.toUTF8.data.toList==(di 52).1::(di 52).2))=[334]:=U
def RR:((c_ PP.funcs.size).filter λf=>(PP.funcs[f]?).any (·.name.toUTF8.data.toList==(ig 0).1::(ig 0).2))=[uv 0]:=U
def RS:((c_ PP.funcs.size).filter λf=>(PP.funcs[f]?).any (·.name.toUTF8.data.toList==(ig 1).1::(ig 1).2))=[uv 1]:=U
def RT:((c_ PP.funcs.size).filter λf=>(PP.funcs[f]?).any (·.name.toUTF8.data.toList==(ig 2).1::(ig 2).2))=[uv 2]:=U
def RU:((c_ PP.funcs.size).filter λf=>(PP.funcs[f]?).any (·.name.toUTF8.data.toList==(ig 3).1::(ig 3).2))=[uv 3]:=U
def RV:((c_ PP.funcs.size).filter λf=>(PP.funcs[f]?).any (·.name.toUTF8.data.toList==(ig 4).1::(ig 4).2))=[uv 4]:=U
def U2(i)(hi:i<5):((c_ PP.funcs.size).filter λf=>(PP.funcs[f]?).any (·.name.toUTF8.data.toList==(ig i).1::(ig i).2))=[uv i]:=by
 match i,hi with
 |0,_=>exact RR
 |1,_=>exact RS
 |2,_=>exact RT
 |3,_=>exact RU
 |4,_=>exact RV
 |i+5,h=>omega
end
section
open Go.Deep Go.Proofs
open Go.Proofs.YtoijalagmmgkbaaGreatDoor (Rows.answerContainsRow)
def Kc{W}(hL:laidMetH PP Rows.answerContainsRow.laid W):∃b el fr ms a,W.heap[2]? =M (.cells #[.map (M b)] el fr)/\W.heap[b]? =M (.map ms a)/\∀ρ,r9 ρ OZ ms.toList:=by
 obtain⟨g,t,cs,fuel,p,j,ht,l,m⟩:=hL.funcs (n := "latecomer/answer.aggregates") (d:=_) (by
  show _∈[_,_,_,_,_,_,_,_,_,_,_,_,_]
  iterate 11 apply z
  exact b_)
 obtain rfl:=Option.some.inj (Xc.symm.trans j)
 obtain rfl:=Option.some.inj zI
 obtain⟨b,ms,a,c,o,q,r⟩:=Kb (N:=ig) (F:=uv) Tryz.underlying179 Tryz.underlying3 Tryz.underlying178 rfl Yr Yq Tryz.underlying100 U2 (h:=m)
 obtain⟨el,fr,k⟩:=nY j l
 rw[OT c]at k
 refine⟨b,el,fr,ms,a,k,o,λρ=>?_⟩
 obtain⟨e,k1,k2,s⟩:=OS (V:=λi=> .agg #[.func (.func (uv i)) #[] #[]]) q r
 have fn:∀f,VR ρ (.agg [.fn f [] []]) (.agg #[.func (.func f) #[] #[]]):=λf=>by
  simp only[VR]
  exact⟨[.func (.func f) #[] #[]],rfl,aU.aL.2 ⟨by simp only[VR];exact⟨[],[],rfl,rfl,rfl⟩,rfl⟩⟩
 refine⟨e,?_,?_,(λh=>zE),s⟩
 ·rw[k1]
  have i:∀n,VR ρ (.int a_ n) (.int a_ n):=λn=>zB
  exact aU.aL.2 ⟨i 1,aU.aL.2 ⟨i 2,aU.aL.2 ⟨i 3,aU.aL.2 ⟨i 4,aU.aL.2 ⟨i 5,rfl⟩⟩⟩⟩⟩
 ·rw[k2]
  exact aU.aL.2 ⟨fn 335,aU.aL.2 ⟨fn 337,aU.aL.2 ⟨fn 339,aU.aL.2 ⟨fn 340,aU.aL.2 ⟨fn 341,rfl⟩⟩⟩⟩⟩
def Ds{W cs fuel p a b}(k:DataW.trod (λ_=>()) PP W 0 (λ_=>true) false fuel 30 cs.toList=M (.agg [.lit (.string a),.lit (.string b)],p)):cs= #[.string ⟨a.toArray⟩,.string ⟨b.toArray⟩]:=by
 obtain⟨l,n,_,hx,hl,g,c⟩:=DataW.trod_struct Tryz.underlying30 k
 have hl:cs.toList.length=2:=hl.trans Y9
 simp only[Prod.mk.injEq]at hx
 obtain⟨hx,_⟩:=hx
 match l,g,hx with
 |[f,x1],_,hx=>
  match d:cs.toList,hl with
  |[i,j],_=>
   have h:DataW.trod (λ_=>()) Tryz.prog W 0 (λ_=>true) false n 9 (([i,j].drop 0).take (Tryz.prog.cellsOf 9))=M f:=by have:=c 0 _ A;rw[d]at this;exact this
   have g1:DataW.trod (λ_=>()) Tryz.prog W 0 (λ_=>true) false n 9 (([i,j].drop 1).take (Tryz.prog.cellsOf 9))=M x1:=by have:=c 1 _ A;rw[d]at this;exact this
   rw[show Tryz.prog.cellsOf 9=1 from c9]at h g1
   simp only[h_,e_,i_,d_]at h
   simp only[v_,h_,e_,i_,r_,d_]at g1
   obtain⟨f,p0⟩:=f
   obtain⟨x1,m⟩:=x1
   have e:([.lit (.string a),.lit (.string b)]:List (DataW Unit))=[f,x1]:=by injection hx
   simp only[List.cons.injEq,and_true]at e
   obtain⟨rfl,rfl⟩:=e
   have o:=F2 Tryz.underlying9 h
   have e1:=F2 Tryz.underlying9 g1
   grind
def Kd{W}(hL:laidMetH PP Rows.answerContainsRow.laid W):∃el fr,W.heap[0]? =M (.cells #[.string ⟨[48].toArray⟩,.string ⟨[49].toArray⟩] el fr):=by
 obtain⟨g,t,cs,fuel,p,a,ht,b,c⟩:=sj hL (n := "latecomer/answer.zero") (d:=_) (by
  show _∈[_,_,_,_,_,_,_,_,_,_,_,_,_]
  iterate 10 apply z
  exact b_) A
 obtain rfl:=Option.some.inj (Xb.symm.trans a)
 obtain rfl:=Option.some.inj zI
 obtain⟨el,fr,e⟩:=nY a b
 rw[Ds c]at e
 grind
def RW{W}(hL:laidMetH PP Rows.answerContainsRow.laid W):∃el fr,W.heap[4]? =M (.cells #[.string ⟨[48].toArray⟩,.string ⟨[49].toArray⟩] el fr):=by
 obtain⟨g,t,cs,fuel,p,a,ht,b,c⟩:=sj hL (n := "latecomer/estimate.zero") (d:=_) (by
  show _∈[_,_,_,_,_,_,_,_,_,_,_,_,_]
  iterate 6 apply z
  exact b_) A
 obtain rfl:=Option.some.inj (Y7.symm.trans a)
 obtain rfl:=Option.some.inj zI
 obtain⟨el,fr,e⟩:=nY a b
 rw[Ds c]at e
 grind
def RX{W}(hL:laidMetH PP Rows.answerContainsRow.laid W):∃el fr,W.heap[5]? =M (.cells #[.string ⟨[49].toArray⟩,.string ⟨[49].toArray⟩] el fr):=by
 obtain⟨g,t,cs,fuel,p,a,ht,b,c⟩:=sj hL (n := "latecomer/estimate.one") (d:=_) (by
  show _∈[_,_,_,_,_,_,_,_,_,_,_,_,_]
  iterate 7 apply z
  exact b_) A
 obtain rfl:=Option.some.inj (Y8.symm.trans a)
 obtain rfl:=Option.some.inj zI
 obtain⟨el,fr,e⟩:=nY a b
 rw[Ds c]at e
 grind
def OU{W}(hL:laidMetH PP Rows.answerContainsRow.laid W):∃el fr,W.heap[3]? =M (.cells (([7,9,11,99]).map λa=>g_ a_ a).toArray el fr):=by
 obtain⟨g,t,cs,fuel,p,b,ht,c,e⟩:=sj hL (n := "latecomer/sketch.limits") (d:=_) (by
  show _∈[_,_,_,_,_,_,_,_,_,_,_,_,_]
  iterate 9 apply z
  exact b_) A
 obtain rfl:=Option.some.inj (Yn.symm.trans b)
 obtain rfl:=Option.some.inj zI
 obtain⟨el,fr,f⟩:=nY b c
 have:=Lib.cells_of_tab (k:=.i64) (zs:=[7,9,11,99]) Tryz.underlying202 Tryz.underlying3 c3 Yt e
 refine⟨el,fr,?_⟩
 rw[f]
 congr 2
 grind
def OV{W}(hL:laidMetH PP Rows.answerContainsRow.laid W):∃el fr,W.heap[8]? =M (.cells ((Lib.pow10Tab).map λa=>g_ .u64 a).toArray el fr):=by
 obtain⟨g,t,cs,fuel,p,b,ht,c,e⟩:=sj hL (n := "internal/strconv.uint64pow10") (d:=_) (by
  show _∈[_,_,_,_,_,_,_,_,_,_,_,_,_]
  iterate 2 apply z
  exact b_) A
 obtain rfl:=Option.some.inj (Yo.symm.trans b)
 obtain rfl:=Option.some.inj zI
 obtain⟨el,fr,f⟩:=nY b c
 have:=Lib.cells_of_tab (k:=.u64) (zs:=Lib.pow10Tab) Tryz.underlying354 Tryz.underlying261 Ys Yu e
 refine⟨el,fr,?_⟩
 rw[f]
 congr 2
 grind
def OW{ρ:Env}{W:World}(f:xB ρ W)(hL:laidMetH PP Rows.answerContainsRow.laid W):∃v el fr,W.heap[1]? =M (.cells #[v] el fr)/\VR ρ (.ab 5 2 aA) v/\v.oneCell'=true:=by
 obtain⟨g,t,cs,fuel,p,x,ht,G,H⟩:=hL.funcs (n := "latecomer/query.operators") (d:=_) (by
  show _∈[_,_,_,_,_,_,_,_,_,_,_,_,_]
  iterate 8 apply z
  exact b_)
 obtain rfl:=Option.some.inj (Ym.symm.trans x)
 obtain rfl:=Option.some.inj zI
 obtain⟨el,fr,y⟩:=nY x G
 rcases open_slice Tryz.underlying149 H with⟨_,hx⟩|⟨a,len,cap,m,n,D,P,i,_,hl,_,hm,hx,l⟩
 ·exact absurd hx (λe=>zG)
 rw[OT i]at y
 refine⟨_,el,fr,y,?_,rfl⟩
 simp only[Prod.mk.injEq]at hx
 have o:DataW.slice [.agg [.lit (.string []),.nil],.agg [.lit (.string [61]),.held ((di 49).1::(di 49).2)],.agg [.lit (.string [33,61]),.held ((di 50).1::(di 50).2)],.agg [.lit (.string [60]),.held ((di 51).1::(di 51).2)],.agg [.lit (.string [62,61]),.held ((di 52).1::(di 52).2)]] []=DataW.slice ((c_ len).map D) ((c_ (m-len)).map λj=>D (len+j)):=hx.1
 have q:[.agg [.lit (.string []),.nil],.agg [.lit (.string [61]),.held ((di 49).1::(di 49).2)],.agg [.lit (.string [33,61]),.held ((di 50).1::(di 50).2)],.agg [.lit (.string [60]),.held ((di 51).1::(di 51).2)],.agg [.lit (.string [62,61]),.held ((di 52).1::(di 52).2)]]=(c_ len).map D:=by injection o
 have I:len=5:=by have:=congrArg List.length q;simpa using this.symm
 subst I
 have b:∀j d,[.agg [.lit (.string []),.nil],.agg [.lit (.string [61]),.held ((di 49).1::(di 49).2)],.agg [.lit (.string [33,61]),.held ((di 50).1::(di 50).2)],.agg [.lit (.string [60]),.held ((di 51).1::(di 51).2)],.agg [.lit (.string [62,61]),.held ((di 52).1::(di 52).2)]][j]? =M d->j<5->D j=d:=λj d h B=>by
  grind
 have J:5<=m:=by rw[hm];split<;>omega
 have C:PP.cellsOf 148=2:=c148
 have str:∀s n c p,DataW.trod (funcToken PP) PP W 0 (λ_=>true) true n 9 [c]=M (.lit (.string s),p)->VR ρ.bare (.str s) c/\c.oneCell'=true:=λs n c p h=>Yl (F2 Tryz.underlying9 h)
 refine Gy f O hl λj B=>?_
 obtain⟨r,E,K⟩:=l j O
 rw[C]at E
 obtain⟨_,F,L⟩:=World.cells?_some E
 have cells:∀k,k<2->W.cell? (a.add (j*2+k))=r[k]? :=λk N=>by
  have:=L k N
  rw[<-add_add];exact this
 have fin:∀w d1 a0 a1,D j= .agg [w,d1]->aA j=[a0,a1]->(∀n c p,DataW.trod (funcToken PP) PP W 0 (λ_=>true) true n 9 [c]=M (w,p)->VR ρ.bare a0 c/\c.oneCell'=true)->(∀n c p,DataW.trod (funcToken PP) PP W 0 (λ_=>true) true n 146 [c]=M (d1,p)->VR ρ.bare a1 c/\c.oneCell'=true)->
   ∃us:List Value,us.length=2/\(∀u∈us,u.oneCell'=true)/\aU ρ.bare (aA j) us/\∀k,k<2->W.cell? (a.add (j*2+k))=us[k]? :=λw d1 a0 a1 e1 Q k0 k1=>by
  obtain⟨us,rfl,g1,g2,g3⟩:=Sm (ρ:=ρ.bare) (a0:=a0) (a1:=a1) Tryz.underlying148 rfl rfl c9 c146 C K e1 k0 k1
  grind
 match j,B with
 |0,_=>exact fin _ _ _ _ (b 0 _ A O) A (str []) λn c p h=>by rw[U0 Tryz.underlying146 h];exact⟨zB,rfl⟩
 |1,_=>exact fin _ _ _ _ (b 1 _ A O) A (str [61]) λn c p h=>HC (func_of_trod Tryz.underlying146 Xd h)
 |2,_=>exact fin _ _ _ _ (b 2 _ A O) A (str [33,61]) λn c p h=>HC (func_of_trod Tryz.underlying146 Xe h)
 |3,_=>exact fin _ _ _ _ (b 3 _ A O) A (str [60]) λn c p h=>HC (func_of_trod Tryz.underlying146 Xf h)
 |4,_=>exact fin _ _ _ _ (b 4 _ A O) A (str [62,61]) λn c p h=>HC (func_of_trod Tryz.underlying146 Xg h)
 |j+5,h=>omega
end
section
open Go.Deep Go.ChangeShapes Go.WideShapes
def sk(W:World)(b:Nat):Env where
 pl l:=if l<12 then M (ux l,match W.heap[ux l]? with|some (.cells cs _ _)=>cs.size|_=>0)else if l=13 then M (b,0)else o_
 fz k:=match W.heap[k]? with|some (.cells cs _ _)=>M cs.toList|_=>o_
def DD(W)(b):xB (sk W b) W:=λk cs el fr h=>by
 show(match W.heap[k]? with|some (.cells cs _ _)=>M cs.toList|_=>o_)=_
 rw[h]
def OX(W:World)(b:Nat):fw where
 w0:=W
 Z k:=k<W.heap.size
 G:=12
 X _:=False
 E _:=False
 DI:=sk W b
def OY(l):(Hm.get l).rw=false:=sh (P:=λ_ b=>b.rw=false) A A A A A A A A (λ_=>rfl) l
def nh{ρ W}(b:xB ρ W){l g cs el fr a}(h:W.heap[g]? =M (.cells cs el fr))(c:ρ l=M (g,cs.size))(d:aU ρ a cs.toList)(f:∀v∈cs.toList,v.oneCell'=true):aJ ρ W (ρ l) a .ro:=by
 refine .inr ⟨g,cs.size,cs.toList,[],el,fr,c,?_,zA,d,⟨(λe=>zG),zA,zA⟩,f,λ_=>?_⟩
 simp_all
 ·rw[A_];exact b g cs el fr h
def Bp(ρ)(k):∀l:List Int,aU ρ (l.map λa=>AV.int k a) (l.map λa=>g_ k a)
 |[]=>rfl
 |_::l=>aU.aL.2 ⟨zB,Bp ρ k l⟩
def U3{W b}(ops:∃v el fr,W.heap[1]? =M (.cells #[v] el fr)/\VR (sk W b) (.ab 5 2 aA) v/\v.oneCell'=true)(zero:∃el fr,W.heap[0]? =M (.cells #[.string ⟨[48].toArray⟩,.string ⟨[49].toArray⟩] el fr))
  (p:∃el fr,W.heap[3]? =M (.cells (([7,9,11,99]:List Int).map λd=>g_ a_ d).toArray el fr)) (D:∃el fr,W.heap[4]? =M (.cells #[.string ⟨[48].toArray⟩,.string ⟨[49].toArray⟩] el fr)) (E:∃el fr,W.heap[5]? =M (.cells #[.string ⟨[49].toArray⟩,.string ⟨[49].toArray⟩] el fr))
  (q:∃el fr,W.heap[8]? =M (.cells (Lib.pow10Tab.map λd=>g_ .u64 d).toArray el fr)) (m:∃el fr ms f,W.heap[2]? =M (.cells #[.map (M b)] el fr)/\W.heap[b]? =M (.map ms f)/\∀ρ,r9 ρ OZ ms.toList):
  Rel (OX W b) (sk W b) Hm W:=by
 have i:=DD W b
 have pl:∀l cs el fr,l<12->W.heap[ux l]? =M (.cells cs el fr)->sk W b l=M (ux l,cs.size):=λl cs el fr s h=>by
  show(if l<12 then M (ux l,match W.heap[ux l]? with|some (.cells cs _ _)=>cs.size|_=>0)else _)=_
  rw[if_pos s,h]
 obtain⟨v,F,G,w,H,o3⟩:=ops
 obtain⟨I,J,y⟩:=zero
 obtain⟨K,L,l1⟩:=p
 obtain⟨Q,R,B⟩:=D
 obtain⟨S,T,C⟩:=E
 obtain⟨t,u,U⟩:=q
 obtain⟨V,X,ms,f,a1,a2,Z⟩:=m
 have j:∀l,14<=l->Hm.get l= .dead:=λl hl=>by
  rw[FZ,if_neg O,if_neg O,if_neg O,if_neg O,if_neg O,if_neg O,if_neg O,if_neg O]
 have two:∀(a c:List UInt8),∀x∈(#[C_ ⟨a.toArray⟩,C_ ⟨c.toArray⟩]:Array Value).toList,x.oneCell'=true:=λa c x hx=>by
  simp only[q_,n_,or_false]at hx
  rcases hx with rfl|rfl<;>rfl
 have n:∀(k:IntKind)(l:List Int),∀x∈(l.map λd=>g_ k d),x.oneCell'=true:=λk l x hx=>by
  obtain⟨d,_,rfl⟩:=List.mem_map.1 hx
  rfl
 refine {dF:=λl=>?_,sep:=λl l' r N N' _ h=>(by rw[OY]at h;cases h),gL:=λl r N h=>(by rw[OY]at h;cases h),gH:=λk o=>?_,size:=dw _,os:=rfl,output:=rfl,tape:=rfl,top:=λl hl=>?_,fp:=λg s=>⟨_,if_pos s⟩,hid:=λ_ _ _ _ _ h=>h,env:=λ_ h=>h.elim,low:=j,qY:=λk vs h=>?_,pV:=λl r N h=>(by rw[OY]at h;cases h),xw:=λ_ h=>h.elim,qZ:=λ_ _ h=>h}
 ·refine sh (P:=λl dF=>bp (sk W b) W (sk W b l) dF) ?_ ?_ ?_ ?_ ?_ ?_ ?_ ?_ (λ_=>trivial) l
  ·exact nh i w (pl 0 _ _ _ O w) (aU.aL.2 ⟨H,rfl⟩) Y
  ·exact nh i y (pl 1 _ _ _ O y) (aU.aL.2 ⟨zB,aU.aL.2 ⟨zB,rfl⟩⟩) (two _ _)
  ·exact nh i l1 (pl 2 _ _ _ O l1) (Bp _ a_ [7,9,11,99]) Y
  ·exact nh i a1 (pl 3 _ _ _ O a1) (aU.aL.2 ⟨by simp only[VR];exact⟨b,0,rfl,rfl⟩,rfl⟩) (λx hx=>by
    have:x= .map (M b):=by simpa using hx
    rw[this];rfl)
  ·have hl:(Lib.pow10Tab.map λd=>g_ .u64 d).length=20:=by rw[List.length_map,Lib.pow10Tab_length]
   refine .inr ⟨8,20,Lib.pow10Tab.map λd=>g_ .u64 d,[],t,u,?_,zI,by rfl,Bp _ .u64 _,⟨(λh=>zE),zA,zA⟩,n .u64 _,λh=>zE⟩
   have:=pl 6 _ _ _ O U
   assumption
  ·exact nh i B (pl 9 _ _ _ O B) (aU.aL.2 ⟨zB,aU.aL.2 ⟨zB,rfl⟩⟩) (two _ _)
  ·exact nh i C (pl 10 _ _ _ O C) (aU.aL.2 ⟨zB,aU.aL.2 ⟨zB,rfl⟩⟩) (two _ _)
  ·exact⟨b,0,ms.toList,f,rfl,a2,Z _,λe=>zG⟩
 ·rcases o with o|o
  ·exact⟨o,rfl⟩
  ·exact o.elim
 ·have hl:14<=l:=hl
  show(if l<12 then _ else if l=13 then _ else o_)=o_
  grind
 ·have h:(match W.heap[k]? with|some (.cells cs _ _)=>M cs.toList|_=>o_)=M vs:=h
  split at h
  ·rename_i cs el fr hb
   cases h
   simp_all
  ·cases h
def open_ints{H:Type}{enc:TypeId×Value->H}{P:Program}{W:World}{sp:Nat->Bool}{held:Bool}{ρ:Env}(c:xB ρ W){t i:Nat}{fuel:Nat}{v:Value}{x:DataW H×List MemPlace}(ht:P.underlying t=M (.slice i))(hi:P.underlying i=M (.int a_))(l:P.cellsOf i=1)
  (h:DataW.trod enc P W 0 sp held fuel t [v]=M x):∃(n:Nat)(X:Nat->Int),VR ρ (.ab n 1 (ae X)) v/\∀j,j<n->aN a_ (X j)=true:=by
 rcases open_slice ht h with⟨m,_⟩|⟨a,len,cap,o,E,D,F,p,_,hl,_,d,_,hx⟩
 ·cases m
  refine⟨0,λ_=>0,?_,O⟩
  simp[VR]
 ·cases p
  have q:len<=o:=by rw[d];split<;>omega
  rw[l]at hx
  have cells:∀j,j<len->∃b,W.cell? (a.add (j*1+0))=M (.int a_ b)/\aN a_ b=true:=λj f=>by
   obtain⟨r,s,w⟩:=hx j O
   obtain⟨_,g,y⟩:=World.cells?_some s
   obtain⟨b,B,_,e⟩:=DataW.trod_int hi w
   refine⟨b,?_,xC e⟩
   rw[<-add_add,y 0 O]
   grind
  let X:Nat->Int:=λj=>match W.cell? (a.add (j*1+0))with|some (.int a_ b)=>b|_=>0
  have hX:∀j,j<len->W.cell? (a.add (j*1+0))=M (.int a_ (X j))/\aN a_ (X j)=true:=λj f=>by
   grind
  refine⟨len,X,Gy c O hl λj f=>?_,ZD⟩
  refine⟨[.int a_ (X j)],rfl,λu C=>?_,aU.aL.2 ⟨zB,rfl⟩,λk G=>?_⟩
  ·have:u= .int a_ (X j):=by simpa using C
   rw[this];rfl
  grind
end
end
end Go.Sx
