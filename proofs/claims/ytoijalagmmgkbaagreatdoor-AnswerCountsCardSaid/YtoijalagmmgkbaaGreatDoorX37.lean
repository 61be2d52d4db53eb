/- The proof of a statement of the seat, part 37. -/
import Derived.Test.YtoijalagmmgkbaaGreatDoorX36
import Derived.Test.YtoijalagmmgkbaaGreatDoorX32
import Derived.Test.YtoijalagmmgkbaaGreatDoorX33
import Derived.Test.YtoijalagmmgkbaaGreatDoorX25
import Derived.Test.YtoijalagmmgkbaaGreatDoorX30
set_option linter.all false
set_option linter.defProp false
set_option maxRecDepth 1000000
namespace Go.Sx
open Go
open Decidable renaming decide->M
open Int renaming ofNat->z,toNat->c_
open List renaming finRange->a_,length->b_,range->f_,getElem?_eq_none->j_,getD_eq_getElem?_getD->m_,length_mergeSort->p_,length_set->r_,length_append->v_,ext_getElem?->x_,getElem?_map->y_,getElem_mem->z_,length_cons->A_,length_nil->B_,all->C_,take->H_,drop->I_
open Go.IntKind renaming i64->d_
open AV renaming int->e_,str->h_,ab->k_,bool->t_,bD->N_
open AH renaming get_set_same->g_,blank->w_,bk->E_
open Tr renaming ofList->i_
open Nat renaming blt->l_,beq->n_,ble->o_,le_succ_of_le->q_,zero_le->D_,blt_eq->G_
noncomputable section
section
open Go.Proofs Go.Sort Go.Shelf Go.RowKit Go.Lib
def QY(x y:Int):(Lib.compareInt x y<0)↔x<y:=by
 unfold Lib.compareInt
 by_cases h1:x<y
 ·simp[h1]
 ·by_cases a:y<x<;>simp[h1,a]
def He(x y:Int):(Lib.compareInt x y=0)↔x=y:=by
 unfold Lib.compareInt
 by_cases h1:x<y
 ·simp[h1];omega
 ·by_cases a:y<x
  ·simp[h1,a];omega
  ·simp[h1,a];omega
def kT(a b:Nat->Int)(d k:Nat):(cb a b (d+1) k<0)↔(a k<b k∨(a k=b k/\cb a b d (k+1)<0)):=by
 show((if Lib.compareInt (a k) (b k)=0 then cb a b d (k+1)else Lib.compareInt (a k) (b k))<0)↔_
 by_cases h:a k=b k
 ·rw[if_pos ((He _ _).2 h)]
  constructor
  ·exactλe=> .inr ⟨h,e⟩
  ·rintro(e|⟨_,e⟩)
   ·omega
   ·exact e
 ·rw[if_neg (λe=>h ((He _ _).1 e)),QY]
  constructor
  ·exact .inl
  ·rintro(e|⟨e,_⟩)
   ·exact e
   ·exact absurd e h
def Db(a:Nat->Int):∀d k,¬ cb a a d k<0
 |0,k=>by show¬ (0:Int)<0;omega
 |d+1,k=>by
  rw[kT]
  rintro(e|⟨_,e⟩)
  ·omega
  ·exact Db a d _ e
def xe(a b zs:Nat->Int):∀d k,cb a b d k<0->cb b zs d k<0->cb a zs d k<0
 |0,k=>λh=>by have h:(0:Int)<0:=h;omega
 |d+1,k=>by
  rw[kT,kT,kT]
  rintro(e|⟨e,c⟩) (f|⟨f,g⟩)
  ·left;omega
  ·left;omega
  ·left;omega
  ·exact .inr ⟨O,xe a b zs d _ c g⟩
def um(c g zs:Nat->Int):∀d k,¬ cb c g d k<0->¬ cb g zs d k<0->¬ cb c zs d k<0
 |0,k=>λ_ _=>by show¬ (0:Int)<0;omega
 |d+1,k=>by
  rw[kT,kT,kT]
  intro h i
  rintro(e|⟨e,j⟩)
  ·by_cases a:c k<g k
   ·exact h (.inl a)
   ·exact i (.inl O)
  ·by_cases a:c k=g k
   ·exact um c g zs d _ (λf=>h (.inr ⟨a,f⟩)) (λf=>i (.inr ⟨O,f⟩)) j
   ·by_cases b:c k<g k
    ·exact h (.inl b)
    ·exact i (.inl O)
def Dc(c g:Nat->Int):∀d k,¬ cb c g d k<0->¬ cb g c d k<0->∀j,j<d->c (k+j)=g (k+j)
 |0,k=>λ_ _ j h=>absurd h (lZ _)
 |d+1,k=>by
  rw[kT,kT]
  intro i l j h
  have e:c k=g k:=by
   by_cases a:c k<g k
   ·exact absurd (.inl a) i
   ·by_cases b:g k<c k
    ·exact absurd (.inl b) l
    ·omega
  cases j with
  |zero=>exact e
  |succ j=>
   have:=Dc c g d (k+1) (λf=>i (.inr ⟨e,f⟩)) (λf=>l (.inr ⟨e.symm,f⟩)) j O
   rwa[show k+(j+1)=k+1+j by omega]
def gw(a:List AV):Nat->Int:=match a with
 |[.fc (.ab _ _ f::_) _]=>aM f
 |_=>λ_=>0
def ti(g:Nat)(a:List AV):Bool:=match a with
 |[.fc (.ab m 1 f::_) 0]=>n_ m g&&bA g f
 |_=>false
def A7(g:Nat)(x y:Nat->Int):Bool:=(f_ g).all λk=>x k==y k
def pK(g n:Nat)(R:Nat->List AV):Bool:=(f_ n).all λi=>ti g (R i)&&(f_ n).all λj=>n_ i j || !A7 g (gw (R i)) (gw (R j))
def xf(a:List AV):AV:=match a with
 |x::_=>x
 |[]=> .any
def lW(g n:Nat)(R:Nat->List AV):List Nat:=(f_ n).mergeSort λx y=>!decide (cb (gw (R y)) (gw (R x)) g 0<0)
def lX(g n:Nat)(R:Nat->List AV)(i:Nat):List AV:=[xf (R ((lW g n R).getD i 0))]
def Rel.Uy{c:fw}{ρ:Env}{H:AH}{w:World}{l n e:Nat}{f g:Nat->List AV}{a:Access}(h:Rel c ρ H w)(hl:H.get l= .rows n e f a)(b:∀i,i<n->f i=g i):Rel c ρ (H.set l (.rows n e g a)) w:=by
 have m:rowsOf n f=rowsOf n g:=lR b
 have k:∀j,j≠l->(H.set l (.rows n e g a)).get j=H.get j:=λj e=>E_ _ _ (λo=>e o.symm)
 refine h.alike A (λj d=>?_) (λj=>?_) (λj=>?_)
 ·by_cases e:j=l
  ·subst e
   rw[g_]
   rw[hl]at d
   exact⟨λi hi=>by rw[<-b i hi];exact d.1 i hi,by have:=d.2;rwa[m]at this⟩
  ·rw[k j e];exact d
 ·by_cases e:j=l
  ·subst e;rw[g_,hl];rfl
  ·rw[k j e]
 ·by_cases e:j=l
  ·subst e;rw[g_,hl];exact⟨(λe=>zG),(λe=>zG)⟩
  ·rw[k j e]
def Hf{c:fw}{ρ:Env}{H:AH}{W:World}(e:Rel c ρ H W){b o:Nat}{vs:List Value}(h:qR ρ b o vs){j:Nat}{v:Value}(d:vs[j]? =Option.some v):W.cell? ⟨b,o+j,none⟩=Option.some v:=by
 obtain⟨_,pre,rest,rfl,f⟩:=h
 obtain⟨el,fr,g⟩:=e.qY _ _ f
 have a:j<vs.length:=(List.getElem?_eq_some_iff.1 d).1
 unfold World.cell?
 rw[g]
 show(pre++vs++rest).toArray[pre.length+j]? =Option.some v
 rw[List.getElem?_toArray,List.append_assoc,List.getElem?_append_right O,Nat.add_sub_cancel_left,List.getElem?_append_left a]
 exact d
def y5{c:fw}{ρ:Env}{H:AH}{W:World}(s:Rel c ρ H W){g:Nat}{a:List AV}(k:ti g a=true){v:Value}(y:aU ρ a [v]):
  ∃p q l n,v= .pointer (some ⟨p,q,none⟩)/\W.cell? ⟨p,q,none⟩=Option.some (.slice l g n)/\(0<g->∃b o,l=Option.some ⟨b,o,none⟩/\∀j,j<g->W.cell? ⟨b,o+j,none⟩=Option.some (.int d_ (gw a j))):=by
 unfold ti at k
 split at k
 ·rename_i m f cs
  simp only[bf]at k
  obtain⟨k1,k2⟩:=k
  cases dE k1
  obtain⟨p,o,us,rfl,C,D⟩:=(aU.aL.1 y).1
  obtain⟨u,E,rfl,F,_⟩:=D
  have t:=Hf s C (j:=0) A
  have hi:=kZ k2
  rcases F with⟨G,rfl⟩|⟨b,I,n,l,J,rfl,_,K⟩
  ·exact⟨p,o,none,0,rfl,by rw[G];exact t,λh=>absurd h O⟩
  ·refine⟨p,o,some l,n,rfl,t,λh=>?_⟩
   obtain⟨rfl,L,w⟩:=K h
   refine⟨b,I,rfl,λj r=>?_⟩
   have x:=L.row (λi hi=>(w i hi).1) r
   obtain⟨l1,l2⟩:=w j r
   rw[hi j r]at l2
   obtain⟨d,zs,e,N,_⟩:=l2
   rw[Nat.mul_one]at x
   have:=Hf s (ρ:=ρ) x (j:=0) (v:=d) (by rw[e];rfl)
   rw[Nat.add_zero]at this
   rw[this]
   exact congrArg some N
 ·cases k
end
section
open Go.Proofs Go.Sort Go.Shelf Go.RowKit Go.Lib
def rY{g n:Nat}{R:Nat->List AV}(h:pK g n R=true){i:Nat}(hi:i<n):ti g (R i)=true/\∀j,j<n->i≠j->A7 g (gw (R i)) (gw (R j))=false:=by
 have:=List.all_eq_true.1 h i (List.mem_range.2 hi)
 simp only[bf]at this
 refine⟨this.1,λj b a=>?_⟩
 have k:=List.all_eq_true.1 this.2 j (List.mem_range.2 b)
 rw[qK a]at k
 simpa using k
def JN{g:Nat}{a:List AV}(h:ti g a=true):a=[xf a]:=by
 unfold ti at h
 split at h
 ·rfl
 ·cases h
def FI{l:Nat}{H:AH}:af PP II 93 [.own l 0 1,.fn 94 [] []] H (.ret (.bK []) H):=by
 intro c ρ w vs hG a d
 obtain⟨u,us,rfl,f,g,h,rfl,i,rfl⟩:=a
 have hx:∃p cap,u= .slice p 0 cap:=by
  rcases f with⟨_,rfl⟩|⟨b,N,c,_,rfl,_⟩
  ·exact⟨_,_,rfl⟩
  ·exact⟨_,_,rfl⟩
 obtain⟨p,cap,rfl⟩:=hx
 have L:=Tryz.yR
 have:=AnyF.slices_SortFunc_none (P:=Tryz.prog) (ρ:=Tryz.qf) {L with} p cap g w
 change Calls Tryz.prog 93 _ _ _ at this
 refine .inl ⟨enters_of Tryz.func93 U A _ w,this.mono ?_⟩
 rintro e w' ⟨rfl,rfl⟩
 exact⟨ρ,Ext.refl ρ,d,[],rfl,rfl⟩
def Dd(g n:Nat)(R:Nat->List AV):(lW g n R).length=n:=by unfold lW;rw[p_];simp
def u4(g n:Nat)(R:Nat->List AV){i:Nat}(hi:i<n):(lW g n R).getD i 0<n:=by
 have hl:=Dd g n R
 rw[m_,mo O]
 have:(lW g n R)[i]'O∈lW g n R:=z_ _
 unfold lW at this
 rw[List.mem_mergeSort]at this
 exact List.mem_range.1 this
set_option maxHeartbeats 1000000 in
def FJ{g n l:Nat}{R:Nat->List AV}{H:AH}(hl:H.get l= .rows n 1 R (.ty 89))(h0:0<n)(hg:g<=9)(hn:n<4611686018427387904)(J:pK g n R=true):
  af PP II 93 [.own l n 1,.fn 94 [] []] H (.ret (.bK []) (H.set l (.rows n 1 (lX g n R) (.ty 89)))):=by
 intro c ρ w vs hG hv hr
 obtain⟨u,us,rfl,K,u2,a6,rfl,e2,rfl⟩:=hv
 obtain⟨z1,z2,rfl,P,Q⟩:=e2
 cases P
 cases Q
 rcases K with⟨e,_⟩|⟨b,N,cap,hb,rfl,a7,a8⟩
 ·omega
 have t:∀i,i<n->R i=[xf (R i)]:=λi hi=>JN (rY J hi).1
 have S:Rel c ρ (H.set l (.rows n 1 (λi=>[xf (R i)]) (.ty 89))) w:=hr.Uy hl t
 obtain⟨T,V,g1,g2,g3,g4⟩:=S.GZ (l:=l) (n:=n) (R:=λi=>[xf (R i)]) (g_ _ _ _) hb λ_=>rfl
 haveI:Inhabited (Fin n):=⟨⟨0,h0⟩⟩
 have hx:∀x:Fin n,∃v,V[x.1]? =Option.some v:=λx=>⟨V[x.1]'O,mo _⟩
 obtain⟨enc,o⟩:=Classical.axiomOfChoice hx
 have C:∀x,(enc x).oneCell'=true:=λx=>g3 _ (List.mem_of_getElem? (o x))
 have j:∀x:Fin n,aU ρ [xf (R x)] [enc x]:=λx=>by
  obtain⟨v,k1,k2⟩:=g2 x x.2
  have:=o x
  rw[k1]at this
  cases this
  exact k2
 have hd:((a_ n).toArray).toList.map enc=V:=by
  apply x_
  intro i
  by_cases hi:i<n
  ·have:=o ⟨i,hi⟩
   rw[this]
   simp[hi]
  ·rw[j_ zJ,j_ O]
 obtain⟨hH,p⟩:=g4 enc (a_ n).toArray hd
 have D:(a_ n).toArray.size=n:=zA
 have hO:SWO (ltOf λx y:Fin n=>cb (gw (R x)) (gw (R y)) g 0):=
  {irrefl:=λx=>nZ (Db _ g 0)
   trans:=λx y d F G=>bW (xe _ _ _ g 0 (pT F) (pT G))
   ntrans:=λx y d F G=>nZ (um _ _ _ g 0 (of_decide_eq_false F) (of_decide_eq_false G))}
 have hT:∀x y:Fin n,(ltOf λx y:Fin n=>cb (gw (R x)) (gw (R y)) g 0) x y=false->(ltOf λx y:Fin n=>cb (gw (R x)) (gw (R y)) g 0) y x=false->x=y:=λx y F G=>Classical.byContradiction λW=>by
  have h3:=(rY J x.2).2 y y.2 (λe=>W (Fin.ext e))
  have X:=Dc _ _ g 0 (of_decide_eq_false F) (of_decide_eq_false G)
  have h4:A7 g (gw (R x)) (gw (R y))=true:=List.all_eq_true.2 λk hk=>by
   have:=X k (List.mem_range.1 hk)
   rw[Nat.zero_add]at this
   rw[this]
   exact beq_self_eq_true _
  rw[h3]at h4
  cases h4
 have I:CmpReads Tryz.prog 94 #[] enc (λx y:Fin n=>cb (gw (R x)) (gw (R y)) g 0) b 0 (a_ n).toArray.size w:=λm os Y Z x y=>by
  rw[D]at Z
  have hW:=p Y (λi=>[xf (R (if h:i<n then(Y[i]'O).1 else 0))]) m os Z C (λ_=>rfl) λi hi=>⟨enc (Y[i]'O),by simp[Z,hi],by simp only[hi,dif_pos];exact j _⟩
  obtain⟨p1,q1,a1,c1,k1,k2,k3⟩:=y5 hW (rY J x.2).1 (v:=enc x) (by rw[t x x.2];exact j x)
  obtain⟨p2,q2,a2,c2,m1,m2,m3⟩:=y5 hW (rY J y.2).1 (v:=enc y) (by rw[t y y.2];exact j y)
  rw[k1,m1]
  refine FH p1 q1 p2 q2 g c1 c2 a1 a2 _ _ k2 m2 λW' hq=>?_
  obtain⟨q,rfl⟩:=hq
  by_cases ad:g=0
  ·subst ad
   exact uF a1 a2 c1 c2 _
  ·obtain⟨b1,o1,rfl,r1⟩:=k3 O
   obtain⟨b2,o2,rfl,r2⟩:=m3 O
   exact FG b1 o1 c1 b2 o2 c2 g _ _ _ hg r1 r2
 have eg:∀args w,(callFunc 94 args).run Tryz.prog w= .ok (.enter 94 args) w:=enters_of Tryz.func94 U A
 have:=Any.slices_SortFunc_total Tryz.yR enc C (λx y:Fin n=>cb (gw (R x)) (gw (R y)) g 0) hO 94 #[] b 0 cap (a_ n).toArray w eg I.lays hH T (by rw[D];exact hn) hT
 change Calls Tryz.prog 93 _ _ _ at this
 rw[D]at this
 refine .inl ⟨enters_of Tryz.func93 U A _ w,this.mono ?_⟩
 rintro e w' ⟨rfl,k,os,rfl⟩
 have E:((a_ n).mergeSort λx y=>!(ltOf λx y:Fin n=>cb (gw (R x)) (gw (R y)) g 0) y x).map Fin.val=lW g n R:=by
  refine(List.map_mergeSort (f:=Fin.val) (r:=λx y:Fin n=>!(ltOf λx y:Fin n=>cb (gw (R x)) (gw (R y)) g 0) y x) (s:=λx y=>!decide (cb (gw (R y)) (gw (R x)) g 0<0)) (l:=a_ n) (λa _ b _=>rfl)).trans ?_
  unfold lW
  congr 1
  apply x_
  intro i
  by_cases hi:i<n
  ·simp[hi]
  ·rw[j_ zJ,j_ zJ]
 have ag:=p ((a_ n).mergeSort λx y=>!(ltOf λx y:Fin n=>cb (gw (R x)) (gw (R y)) g 0) y x).toArray (lX g n R) k os (by simp[p_]) C (λ_=>rfl) λi hi=>by
  have ap:((a_ n).mergeSort λx y=>!(ltOf λx y:Fin n=>cb (gw (R x)) (gw (R y)) g 0) y x).length=n:=by rw[p_];simp
  have K:=mo (l:=(a_ n).mergeSort λx y=>!(ltOf λx y:Fin n=>cb (gw (R x)) (gw (R y)) g 0) y x) (i:=i) O
  refine⟨enc (((a_ n).mergeSort λx y=>!(ltOf λx y:Fin n=>cb (gw (R x)) (gw (R y)) g 0) y x)[i]'O),?_,?_⟩
  ·rw[y_]
   show Option.map enc (List.toArray _).toList[i]? =_
   rw[List.toList_toArray,K];rfl
  ·unfold lX
   have:(lW g n R).getD i 0=(((a_ n).mergeSort λx y=>!(ltOf λx y:Fin n=>cb (gw (R x)) (gw (R y)) g 0) y x)[i]'O).1:=by
    rw[<-E,m_,y_,K];rfl
   rw[this]
   exact j _
 refine⟨ρ,Ext.refl ρ,ag.congr A λi=>?_,[],rfl,rfl⟩
 by_cases L:i=l
 ·subst L;rw[g_,g_]
 ·rw[E_ _ _ (λd=>L d.symm),E_ _ _ (λd=>L d.symm),E_ _ _ (λd=>L d.symm)]
def N5(g:Nat):aC PP II where
 f:=93
 spec X args H a _:=match args with
  |[.own l n 1,.fn 94 [] []]=>match H.get l with
   | .rows m 1 R (.ty 89)=>X.ak (n_ n m&&o_ g 9&&l_ n 4611686018427387904&&pK g n R) (a (.bK []) (H.set l (.rows n 1 (lX g n R) (.ty 89))))
   |_=>X.fail
  |_=>X.fail
 ok X sem hX args H a kp h:=by
  split at h
  ·rename_i l n
   split at h
   ·rename_i m R hl
    obtain⟨b,d⟩:=hX.ak _ _ h
    simp only[bf,G_]at b
    obtain⟨⟨⟨a1,a2⟩,e⟩,a4⟩:=b
    cases dE a1
    refine⟨.ret _ _,d,?_⟩
    by_cases i:n=0
    ·subst i
     intro c ρ w vs hG j k
     exact FI c ρ w vs hG j (k.Nv hl)
    ·exact FJ hl O (jX a2) e a4
   ·exact zR
  ·exact zR
end
def JO(q:Query)(k:Nat)(F:Nat->ay)(gs:List bj)(Q:AV->Prop):(kq [N5 q.ng] [(4001,16,N3 q k F,.one (.x 0 (JM q gs)))] 40 [.agg (aY q),cm k F] Q)=(aE PP II false (aD II 40 4001) 16 (N3 q k F) (GE.one (aQ.x 0 (JM q gs)))/\zyN q.nw (zyR q.nw (au q.C) (zyN q.ng (zyR q.ng (aR q.G) (zyI q.a (zyI q.fl (zyB q.nu (zyB q.de (zyI q.top (zyB [48] (zyB [49] (zyR 5 aA (zyN k ((an k (λi=>aF (F i)) λi=>aF (F i))/\zyI (z k) (B (n_ (b_ gs) (b_ gs)&&o_ q.ng 9&&l_ (b_ gs) 4611686018427387904&&pK q.ng (b_ gs) (fj q.ng gs)) (B ((C_ (f_ (b_ gs)) λi=>bt.free (lX q.ng (b_ gs) (fj q.ng gs) i))&&M (b_ gs<=b_ gs)) (Q (k_ (b_ gs) 1 (lX q.ng (b_ gs) (fj q.ng gs)))))))))))))))))))):=U
structure xg (b:Query) (gs:List bj):Prop where
 key:∀a,a<gs.length->(aK gs a).key=[bif l_ 0 b.ng then(aK gs a).W 0 else 0,bif l_ 1 b.ng then(aK gs a).W 1 else 0,bif l_ 2 b.ng then(aK gs a).W 2 else 0]
 apart:∀i a,i<gs.length->a<gs.length->i≠a->(aK gs i).key≠(aK gs a).key
def tj(q:Query)(F:Nat->ay):∀i,xg q (aV q F i)
 |0=>⟨λj d=>absurd d (by simp[aV]),λi j hi=>absurd hi (by simp[aV])⟩
 |i+1=>by
  obtain⟨m,k⟩:=tj q F i
  show xg q (km q (aV q F i) i (F i))
  unfold km
  cases gk q (F i)with
  |false=>exact⟨m,k⟩
  |true=>
   simp only[cond_true]
   split
   ·rename_i j d
    obtain⟨d,_⟩:=lF d
    refine⟨λl hl=>?_,λa b ha f c=>?_⟩
    ·rw[r_]at hl
     rw[gg d]
     by_cases h:l=j
     ·rw[if_pos h];exact m j d
     ·rw[if_neg h];exact m l hl
    ·rw[r_]at ha f
     rw[gg d,gg d]
     by_cases h:a=j
     ·rw[if_pos h,if_neg (λe=>c (h.trans e.symm))]
      subst h
      exact k a b ha f c
     ·rw[if_neg h]
      by_cases g:b=j
      ·rw[if_pos g];subst g;exact k a b ha f c
      ·rw[if_neg g];exact k a b ha f c
   ·rename_i n
    have no:=xc n
    refine⟨λl hl=>?_,λa b ha f c=>?_⟩
    ·rw[gh]
     by_cases h:l=(aV q F i).length
     ·rw[if_pos h];rfl
     ·rw[if_neg h];exact m l (by simp at hl;omega)
    ·simp only[v_,A_,B_]at ha f
     rw[gh,gh]
     by_cases h:a=(aV q F i).length
     ·rw[if_pos h,if_neg O]
      exactλe=>no b O e.symm
     ·rw[if_neg h]
      by_cases g:b=(aV q F i).length
      ·rw[if_pos g];exact no a O
      ·rw[if_neg g];exact k a b O O c
def kc(n:Nat)(W:Nat->Int):bA n (ae W)=true:=List.all_eq_true.2 λ_ _=>rfl
def N6{q:Query}{gs:List bj}(h:xg q gs)(g:q.ng<=3):pK q.ng gs.length (fj q.ng gs)=true:=by
 refine List.all_eq_true.2 λi hi=>?_
 have hi:=List.mem_range.1 hi
 rw[bf]
 refine⟨?_,List.all_eq_true.2 λj c=>?_⟩
 ·show(n_ q.ng q.ng&&bA q.ng (ae _))=true
  rw[ni,kc];rfl
 ·have c:=List.mem_range.1 c
  by_cases e:i=j
  ·subst e;rw[ni];rfl
  ·rw[qK e,Bool.false_or,Bool.not_eq_true']
   cases he:A7 q.ng (gw (fj q.ng gs i)) (gw (fj q.ng gs j))with
   |false=>rfl
   |true=>
    refine absurd ?_ (h.apart i j hi c e)
    have a:∀k,k<q.ng->(aK gs i).W k=(aK gs j).W k:=λk f=>by
     have:=List.all_eq_true.1 he k (List.mem_range.2 f)
     have:=eq_of_beq this
     exact this
    rw[h.key i hi,h.key j c]
    have b:∀k,(bif l_ k q.ng then(aK gs i).W k else 0)=bif l_ k q.ng then(aK gs j).W k else 0:=λk=>by
     cases d:l_ k q.ng with
     |true=>rw[cond_true,cond_true,a k (by rw[G_]at d;exact d)]
     |false=>rfl
    rw[b 0,b 1,b 2]
def De(q:Query)(gs:List bj):AV:=.ab gs.length 1 (lX q.ng gs.length (fj q.ng gs))
def FK(g n:Nat)(gs:List bj):((f_ n).all λi=>bt.free (lX g n (fj g gs) i))=true:=List.all_eq_true.2 λi _=>rfl
def qM(g n:Nat)(gs:List bj):an n (lX g n (fj g gs)) (lX g n (fj g gs)):=λi _ σ=>⟨⟨⟨⟨rfl,rfl,λj _=>jw _ _ j⟩,⟨rfl,rfl,λj _=>kS _ _ _ _ j⟩,⟨rfl,rfl,λj _=>jw _ _ j⟩,trivial⟩,rfl⟩,trivial⟩
def JP{q:Query}{k:Nat}{F:Nat->ay}(b:ct q=true)(d:k<=1000000)(e:∀i,i<k->bB (F i)=true):af PP II 40 [.agg (aY q),cm k F] HR (.ret (De q (aV q F k)) HR):=by
 refine qh (ks:=[N5 q.ng]) (T:=[(4001,16,N3 q k F,.one (.x 0 (JM q (aV q F k))))]) ?_
 rw[JO]
 have a:=Xs b
 have c:=(lG q F k).len
 have fl:=gU k F
 have a1:(n_ (aV q F k).length (aV q F k).length&&o_ q.ng 9&&l_ (aV q F k).length 4611686018427387904&&pK q.ng (aV q F k).length (fj q.ng (aV q F k)))=true:=by
  rw[ni,kV (O:q.ng<=9),eV (O:(aV q F k).length<4611686018427387904),N6 (tj q F k) a];rfl
 have a2:=FK q.ng (aV q F k).length (aV q F k)
 refine⟨Da q k F d b e,?_⟩
 repeat' (first|with_reducible refine Zf A ?_|with_reducible refine YG A ?_|with_reducible refine Zi A ?_|with_reducible refine And.intro ?_ ?_|with_reducible exact bC _ _|with_reducible exact bO _ _|with_reducible exact aZ|with_reducible exact fl|with_reducible exact trivial|with_reducible refine cC _ _ a1 ?_|exact cC _ _ (by rw[a2];simp) (λσ=>⟨rfl,rfl,λi hi=>qM _ _ _ i hi σ⟩))
def ie(k:Nat)(f:Nat->List AV):Bool:=fh k f&&(f_ k).all λi=>bB (bP f i)
def rZ(q:Query):aC PP II:=aC.s9 40
 (λX args a=>match args with
  |[.agg cs,.ab k 10 f]=>X.ak (qT q cs&&ct q&&o_ k 1000000&&ie k f) (a (De q (aV q (bP f) k)))
  |_=>X.fail)
 λX sem hX args a h=>by
  split at h
  ·rename_i cs k f
   obtain⟨b,c⟩:=hX.ak _ _ h
   simp only[bf]at b
   obtain⟨⟨⟨a1,a2⟩,d⟩,a4⟩:=b
   obtain⟨l1,l2⟩:=mi a1
   unfold ie at a4
   simp only[bf]at a4
   refine⟨_,c,λ_=>rfl,λσ=>?_,af.dA (JP a2 (jX d) λi hi=>List.all_eq_true.1 a4.2 i (List.mem_range.2 hi)) l1 (fq a4.1)⟩
   show [N_ σ (.agg _),_]=_
   rw[l2];rfl
  ·exact zR
def r6(q:Query):aC PP II:=aC.s9 41
 (λX args a=>match args with
  |[.agg cs,.ab k 3 r]=>X.ak (qT q cs&&ct q&&lD k r&&bX k (ka r)&&bX k (iF r)) (a (CW q k (ka r) (iF r) (iG r)))
  |_=>X.fail)
 λX sem hX args a h=>by
  split at h
  ·obtain⟨b,c⟩:=hX.ak _ _ h
   simp only[bf]at b
   obtain⟨⟨⟨⟨a1,a2⟩,d⟩,a4⟩,e⟩:=b
   obtain⟨r1,f,g⟩:=eb a2
   obtain⟨l1,l2⟩:=mi a1
   refine⟨_,c,λ_=>rfl,λσ=>?_,af.dA (Jt r1 f g a4 e) l1 (oL d)⟩
   show [N_ σ (.agg _),_]=_
   rw[l2];rfl
  ·exact zR
def j4.two{x a a':AV}{H H':AH}(h:j4 a H a' H')(hx:x.free=true):sM [x,a] H [x,a'] H':=⟨h.1,λc ρ w vs f i=>by
 obtain⟨u,us,rfl,j,b,l,rfl,m,rfl⟩:=i
 obtain⟨ρ',d,o,q⟩:=h.2 c ρ w b f m
 exact⟨ρ',d,o,u,[b],rfl,VR.ext d.bare _ _ (VR.free _ _ hx j),b,[],rfl,q,rfl⟩⟩
def Hg:aC PP II where
 f:=42
 spec X args H a kp:=match args with
  |[.agg cs,.own l m 9]=>match H.get l with
   | .rows n 9 r (.ty 44)=>X.ak (n_ n m&&bt.free cs&&(f_ n).all λi=>bt.free (r i)) (WZ.spec X [.agg cs,.ab m 9 r] (H.set l (.rows n 9 r .ro)) a kp)
   |_=>X.fail
  |_=>X.fail
 ok X sem hX args H a kp h:=by
  split at h
  ·rename_i cs l m
   split at h
   ·rename_i n r hl
    obtain⟨b,c⟩:=hX.ak _ _ h
    simp only[bf]at b
    obtain⟨⟨a1,a2⟩,d⟩:=b
    cases dE a1
    obtain⟨o,k1,k2⟩:=WZ.ok X sem hX _ _ _ _ c
    refine⟨o,k1,af.nI (j4.two ?_ (show AV.free (.agg cs)=true from a2)) k2⟩
    have e:l6 H l=Option.some (H.set l (.rows m 9 r .ro)):=by unfold l6;rw[hl]
    have:qC RI.jY (0+1) (.own l m 9) H (λa' H'=>a'= .ab m 9 r/\H'=H.set l (.rows m 9 r .ro)):=by
     rw[A6 RI.jY _ e (g_ _ _ _)]
     exact Ze (by rw[d,bW (dw m)];rfl) ⟨rfl,rfl⟩
    obtain⟨a',H',⟨rfl,rfl⟩,g⟩:=lm (sem:=id) RI.dJ _ _ H _ this
    exact g
   ·exact zR
  ·exact zR
def N7(q:Query)(Q:AV->Prop):(kb [lQ] [] 38 [.agg (aY q)] Q)=(B (aI 3 q.nw (au q.C)&&aI 1 q.ng (aR q.G)) (B (eU {nw:=q.nw,C:=bG (au q.C),ng:=q.ng,G:=λj=>q.G j,a:=q.a,fl:=q.fl,nu:=q.nu,de:=q.de,top:=q.top}) (ah (M (q.fl=0)) (Q (t_ true)) (ah (M (q.fl=7)) (Q (t_ true)) (ah (M (q.fl=8)) (Q (t_ true)) (Q (t_ true))))))):=U
def N8{q:Query}(h:ct q=true):af PP II 38 [.agg (aY q)] (w_ 12) (.ret (.bool true) (w_ 12)):=by
 obtain⟨a,b,c⟩:=eb h
 refine bY (ks:=[lQ]) (T:=[]) (λ_=>rfl) ?_
 rw[N7]
 refine cC _ _ (by rw[a,b];rfl) (cC _ _ ((oH q).trans c) ?_)
 exact Zh (λ_=>rfl) λ_=>Zh (λ_=>rfl) λ_=>Zh (λ_=>rfl) λ_=>rfl
def u5(q:Query):aC PP II:=aC.pure 38
 (λX args b=>match args with
  |[.agg cs]=>X.ak (qT q cs&&ct q) (b (.bool true))
  |_=>X.fail)
 λX sem hX args b h=>by
  split at h
  ·obtain⟨a,c⟩:=hX.ak _ _ h
   rw[bf]at a
   exact⟨_,c,λ_=>rfl,λσ=>by show [N_ σ (.agg _)]=_;rw[(mi a.1).2],(N8 a.2).dq ⟨(mi a.1).1,trivial⟩⟩
  ·exact zR
def qN(g:Nat)(X:Nat->bj)(i:Nat):List AV:=[.fc (qL g (X i)) 0]
def og(q:Query)(gs:List bj)(i:Nat):bj:=aK gs ((lW q.ng gs.length (fj q.ng gs)).getD i 0)
def dK(X:Nat->bj)(i k:Nat):Int:=(X i).W k
def jC(q:Query)(X:Nat->bj)(i k:Nat):List UInt8:=match k with
 |0=>(eO q (X i).m (X i).L (X i).C).1
 |1=>(eO q (X i).m (X i).L (X i).C).2
 |2=>(dQ q (X i).m (X i).G (X i).C).1
 |_=>(dQ q (X i).m (X i).G (X i).C).2
def YI(q:Query)(K:Nat->Nat->Int)(S:Nat->Nat->List UInt8)(no:Nat):AH:=hQ 16 [(14,.cells (aY q) (.ty 32)),(15,.rows no 9 (aX q.ng K S) (.ty 44))]
def QZ(q:Query)(n:Nat)(X:Nat->bj)(K:Nat->Nat->Int)(S:Nat->Nat->List UInt8)(N:Int->Nat)(i:Int):St:={t:=i_ [(2,.ptr 14 0 0 0),(6,.own 15 (N i) 9),(21,.ab n 1 (qN q.ng X)),(22,.int d_ (z n)),(23,.int d_ i)],nt:=52,H:=YI q K S (N i),df:=[]}
def Q0(q:Query)(n:Nat)(K:Nat->Nat->Int)(S:Nat->Nat->List UInt8):GE:=.one (.x 0 {t:=i_ [(2,.ptr 14 0 0 0),(6,.own 15 n 9)],nt:=52,H:=YI q K S n,df:=[]})
def Df(q:Query)(n:Nat)(X:Nat->bj)(K:Nat->Nat->Int)(S:Nat->Nat->List UInt8)(N:Int->Nat)(i:Int)(Q:Prop):(kr [r6 q] [] 13 5001 15 (QZ q n X K S N) (λ_=>Q0 q n K S) (λi=>i+1) Q i)=(ah (M (i<z n)) (B (M (0<=i)&&M (i<z n)) (B (qT q [k_ q.nw 3 (au q.C),k_ q.ng 1 (aR q.G),e_ d_ q.a,e_ d_ q.fl,h_ q.nu,h_ q.de,e_ d_ q.top]&&ct q&&lD (bj.m (X i.toNat)) (az (bj.L (X i.toNat)) (bj.G (X i.toNat)) (bj.C (X i.toNat)))&&bX (bj.m (X i.toNat)) (ka (az (bj.L (X i.toNat)) (bj.G (X i.toNat)) (bj.C (X i.toNat))))&&bX (bj.m (X i.toNat)) (iF (az (bj.L (X i.toNat)) (bj.G (X i.toNat)) (bj.C (X i.toNat))))) (B (M (N i<=N i)&&true&&true&&M ((N i+1)*152<=140737488355328)&&true) (B (aN d_ (i+1)) (ax (N i+1) (N (i+1)) (an (N i+1) (λb=>bif l_ b (N i)then aX q.ng K S b else H_ 9 (I_ (0+(b-N i)*9) [k_ q.ng 1 (ae (bj.W (X i.toNat))),h_ (Prod.fst (eO q (bj.m (X i.toNat)) (ka (az (bj.L (X i.toNat)) (bj.G (X i.toNat)) (bj.C (X i.toNat)))) (iG (az (bj.L (X i.toNat)) (bj.G (X i.toNat)) (bj.C (X i.toNat)))))),h_ (Prod.snd (eO q (bj.m (X i.toNat)) (ka (az (bj.L (X i.toNat)) (bj.G (X i.toNat)) (bj.C (X i.toNat)))) (iG (az (bj.L (X i.toNat)) (bj.G (X i.toNat)) (bj.C (X i.toNat)))))),h_ (Prod.fst (dQ q (bj.m (X i.toNat)) (iF (az (bj.L (X i.toNat)) (bj.G (X i.toNat)) (bj.C (X i.toNat)))) (iG (az (bj.L (X i.toNat)) (bj.G (X i.toNat)) (bj.C (X i.toNat)))))),h_ (Prod.snd (dQ q (bj.m (X i.toNat)) (iF (az (bj.L (X i.toNat)) (bj.G (X i.toNat)) (bj.C (X i.toNat)))) (iG (az (bj.L (X i.toNat)) (bj.G (X i.toNat)) (bj.C (X i.toNat)))))),h_ [48],h_ [49],h_ [48],h_ [49]])) (aX q.ng K S)/\zyN q.nw (zyR q.nw (au q.C) (zyN q.ng (zyR q.ng (aR q.G) (zyI q.a (zyI q.fl (zyB q.nu (zyB q.de (zyI q.top (zyB [48] (zyB [49] (zyR 5 aA (zyI (i+1) (zyN n ((an n (λi=>[AV.fc [k_ q.ng 1 (ae (X i).W),k_ (X i).m 3 (az (X i).L (X i).G (X i).C),k_ (X i).m 1 (ae (X i).T)] 0]) λi=>[AV.fc [k_ q.ng 1 (ae (X i).W),k_ (X i).m 3 (az (X i).L (X i).G (X i).C),k_ (X i).m 1 (ae (X i).T)] 0])/\ax (N i+1) (N (i+1)) (zyI (z n) Q))))))))))))))))))))) (ax (N i) n (zyR (N i) (aX q.ng K S) (zyN q.nw (zyR q.nw (au q.C) (zyN q.ng (zyR q.ng (aR q.G) (zyI q.a (zyI q.fl (zyB q.nu (zyB q.de (zyI q.top (zyB [48] (zyB [49] (zyR 5 aA (ax (N i) n True)))))))))))))))):=U
def Uz(q:Query)(k:Nat)(F:Nat->ay)(n:Nat)(X:Nat->bj)(K:Nat->Nat->Int)(S:Nat->Nat->List UInt8)(N:Int->Nat)(Q:AV->Prop):(kq [u5 q,uT,rZ q,Hg] [(5001,15,QZ q n X K S N 0,Q0 q n K S)] 13 [.agg (aY q),cm k F] Q)=(B (qT q [k_ q.nw 3 (au q.C),k_ q.ng 1 (aR q.G),e_ d_ q.a,e_ d_ q.fl,h_ q.nu,h_ q.de,e_ d_ q.top]&&ct q) (B (M (k<=1000000)&&fh k λi=>aF (F i)) (ah (!cX k (bP λi=>aF (F i))) (Q (AV.bK [AV.aw,e_ d_ 200])) (B (qT q [k_ q.nw 3 (au q.C),k_ q.ng 1 (aR q.G),e_ d_ q.a,e_ d_ q.fl,h_ q.nu,h_ q.de,e_ d_ q.top]&&ct q&&o_ k 1000000&&ie k λi=>aF (F i)) (aE PP II false (aD II 13 5001) 15 (QZ q n X K S N 0) (Q0 q n K S)/\ax (N 0) 0 (zyN q.nw (zyR q.nw (au q.C) (zyN q.ng (zyR q.ng (aR q.G) (zyI q.a (zyI q.fl (zyB q.nu (zyB q.de (zyI q.top (zyB [48] (zyB [49] (zyR 5 aA (ax (b_ (aV q (bP λi=>aF (F i)) k)) n (an (b_ (aV q (bP λi=>aF (F i)) k)) (lX q.ng (b_ (aV q (bP λi=>aF (F i)) k)) (fj q.ng (aV q (bP λi=>aF (F i)) k))) (qN q.ng X)/\ax (N 0) 0 (aH (z (b_ (aV q (bP λi=>aF (F i)) k))) (z n) (B (n_ n n&&bt.free [k_ q.nw 3 (au q.C),k_ q.ng 1 (aR q.G),e_ d_ q.a,e_ d_ q.fl,h_ q.nu,h_ q.de,e_ d_ q.top]&&C_ (f_ n) λi=>bt.free (aX q.ng K S i)) (B (oA [k_ q.nw 3 (au q.C),k_ q.ng 1 (aR q.G),e_ d_ q.a,e_ d_ q.fl,h_ q.nu,h_ q.de,e_ d_ q.top]&&wT q.ng n (aX q.ng K S)&&Ft n (nV (aX q.ng K S))&&o_ n 1000000) (Q (AV.bK [k_ (ju {nw:=q.nw,C:=bG (au q.C),ng:=q.ng,G:=λj=>q.G j,a:=q.a,fl:=q.fl,nu:=q.nu,de:=q.de,top:=q.top} n (nV (aX q.ng K S))) 9 (aX q.ng (λj=>CZ (aX q.ng K S) (cS {nw:=q.nw,C:=bG (au q.C),ng:=q.ng,G:=λj=>q.G j,a:=q.a,fl:=q.fl,nu:=q.nu,de:=q.de,top:=q.top} n (nV (aX q.ng K S)) j)) λj=>nV (aX q.ng K S) (cS {nw:=q.nw,C:=bG (au q.C),ng:=q.ng,G:=λj=>q.G j,a:=q.a,fl:=q.fl,nu:=q.nu,de:=q.de,top:=q.top} n (nV (aX q.ng K S)) j)),e_ d_ 0])))))))))))))))))))))))):=U
def Dg(W:Nat->Int):∀k,0<k->∃i,i<k/\jc W k=W i
 |0,h=>absurd h (HD _)
 |1,_=>⟨0,O,by show(if W 0<W 0 then W 0 else W 0)=W 0;split<;>rfl⟩
 |k+2,_=>by
  obtain⟨i,hi,e⟩:=Dg W (k+1) O
  show ∃i,i<k+2/\(if W (k+1)<jc W (k+1)then W (k+1)else jc W (k+1))=W i
  split
  ·exact⟨k+1,O,rfl⟩
  ·exact⟨i,O,e⟩
def Dh(W:Nat->Int):∀k,0<k->∃i,i<k/\cG W k=W i
 |0,h=>absurd h (HD _)
 |1,_=>⟨0,O,by show(if W 0>W 0 then W 0 else W 0)=W 0;split<;>rfl⟩
 |k+2,_=>by
  obtain⟨i,hi,e⟩:=Dh W (k+1) O
  show ∃i,i<k+2/\(if W (k+1)>cG W (k+1)then W (k+1)else cG W (k+1))=W i
  split
  ·exact⟨k+1,O,rfl⟩
  ·exact⟨i,O,e⟩
def jx{x:ay}(h:bB x=true):(0<=x.l/\x.l<=x.h/\x.h<=4398046511104)/\0<=x.b/\x.b<=24000:=by
 unfold bB at h
 simp only[bf,bn]at h
 omega
def xh{q:Query}{x:ay}(b:bB x=true){m:Nat}(a:m<jQ q x):0<=fT q x m/\fT q x m<=4398046511104:=by
 obtain⟨⟨c,d,e⟩,_⟩:=jx b
 have a:m<(NH q x (3*(q.nw+2))).length:=a
 have:fT q x m∈NH q x (3*(q.nw+2)):=by
  unfold fT
  rw[m_,mo a]
  exact z_ _
 have:=QP this
 unfold qS xG at this
 simp only[bf,bn]at this
 omega
def xi{q:Query}{x:ay}(f:eU q=true)(c:bB x=true)(d:gk q x=true):0<=kR q x/\kR q x<=4398046511104:=by
 obtain⟨⟨g,h,j⟩,k,m⟩:=jx c
 unfold kR
 rw[d]
 show 0<=(if q.a=1 then 1 else if q.fl=7 then x.b else match jA q x with|true=>x.l|false=>jc (fT q x) (jQ q x))/\(if q.a=1 then 1 else if q.fl=7 then x.b else match jA q x with|true=>x.l|false=>jc (fT q x) (jQ q x))<=4398046511104
 split
 ·omega
 ·split
  ·omega
  ·split
   ·omega
   ·obtain⟨i,hi,e⟩:=Dg (fT q x) (jQ q x) (wX f d)
    rw[e];exact xh c hi
def FL{q:Query}{x:ay}(f:eU q=true)(c:bB x=true)(d:gk q x=true):0<=lJ q x/\lJ q x<=4398046511104:=by
 obtain⟨⟨g,j,k⟩,l,m⟩:=jx c
 unfold lJ
 rw[d]
 show 0<=(if q.a=1 then 1 else if q.fl=7 then x.b else match jA q x with|true=>x.h|false=>cG (fT q x) (jQ q x))/\(if q.a=1 then 1 else if q.fl=7 then x.b else match jA q x with|true=>x.h|false=>cG (fT q x) (jQ q x))<=4398046511104
 split
 ·omega
 ·split
  ·omega
  ·split
   ·omega
   ·obtain⟨i,hi,e⟩:=Dh (fT q x) (jQ q x) (wX f d)
    rw[e];exact xh c hi
def xj{W:Nat->Int}{m:Nat}{v:Int}(h:fA W m)(a:0<=v/\v<=4398046511104):fA (gV W m v) (m+1):=λi hi=>by
 unfold gV
 by_cases e:i=m
 ·rw[if_pos e];exact a
 ·rw[if_neg e];exact h i O
structure Di (gs:List bj) (n:Nat):Prop where
 ms:∀a,a<gs.length->(aK gs a).m<=n
 lo:∀a,a<gs.length->fA (aK gs a).L (aK gs a).m
 hi:∀a,a<gs.length->fA (aK gs a).G (aK gs a).m
def y6{q:Query}(F:Nat->ay)(e:eU q=true):∀i,(∀j,j<i->bB (F j)=true)->Di (aV q F i) i
 |0,_=>⟨λj a=>absurd a (by simp[aV]),λj a=>absurd a (by simp[aV]),λj a=>absurd a (by simp[aV])⟩
 |i+1,f=>by
  obtain⟨b,c,d⟩:=y6 F e i λj a=>f j O
  show Di (km q (aV q F i) i (F i)) (i+1)
  unfold km
  cases hp:gk q (F i)with
  |false=>exact⟨λj a=>q_ (b j a),c,d⟩
  |true=>
   simp only[cond_true]
   have g:=xi e (f i O) hp
   have k:=FL e (f i O) hp
   split
   ·rename_i j a
    obtain⟨a,_⟩:=lF a
    refine⟨λl hl=>?_,λl hl=>?_,λl hl=>?_⟩
    all_goals
     rw[r_]at hl
     rw[gg a]
     by_cases h:l=j
    ·rw[if_pos h];exact Nat.succ_le_succ (b j a)
    ·rw[if_neg h];exact q_ (b l hl)
    ·rw[if_pos h];exact xj (c j a) g
    ·rw[if_neg h];exact c l hl
    ·rw[if_pos h];exact xj (d j a) k
    ·rw[if_neg h];exact d l hl
   ·refine⟨λl hl=>?_,λl hl=>?_,λl hl=>?_⟩
    all_goals
     simp only[v_,A_,B_]at hl
     rw[gh]
     by_cases h:l=(aV q F i).length
    ·rw[if_pos h];show 1<=i+1;omega
    ·rw[if_neg h];exact q_ (b l O)
    ·rw[if_pos h];exactλ_ _=>g
    ·rw[if_neg h];exact c l O
    ·rw[if_pos h];exactλ_ _=>k
    ·rw[if_neg h];exact d l O
def y7{q:Query}{k:Nat}{W:Nat->Int}{C:Nat->Bool}(d:k<=1000)(a:fA W k)(b:eU q=true):bJ (eO q k W C).1 (eO q k W C).2=true:=by
 unfold eO
 have hn:=mU C k
 split
 ·obtain⟨j,f,e⟩:=eK (better:=λc=>M (c<0)) (R:=bN q (aP C k) (bS C W k) (bQ (aP (λi=>!C i) k) (bS (λi=>!C i) W k))) (aP (λi=>!C i) k)
  rw[e]
  have g:=dn O (pI (fR (p:=C) a) (kP (fR (p:=λi=>!C i) a)))
  cases j with
  |zero=>exact cz (dn O (fR a)) b
  |succ j=>exact cz (dD g O) b
 ·obtain⟨j,f,e⟩:=eK (better:=λc=>M (c<0)) (R:=br q (bQ k W)) k
  rw[e]
  cases j with
  |zero=>exact cz (k:=0) (W:=λ_=>0) A b
  |succ j=>exact cz (dD (dn d (kP a)) O) b
def y8{q:Query}{k:Nat}{W:Nat->Int}{C:Nat->Bool}(d:k<=1000)(a:fA W k)(b:eU q=true):bJ (dQ q k W C).1 (dQ q k W C).2=true:=by
 unfold dQ
 have hn:=mU C k
 split
 ·obtain⟨j,f,e⟩:=eK (better:=λc=>M (c>0)) (R:=bN q (aP C k) (bS C W k) (cK (aP (λi=>!C i) k) (bS (λi=>!C i) W k))) (aP (λi=>!C i) k)
  rw[e]
  have g:=dn O (pI (fR (p:=C) a) (kQ (fR (p:=λi=>!C i) a)))
  cases j with
  |zero=>exact cz (dn O (fR a)) b
  |succ j=>exact cz (dD g O) b
 ·obtain⟨j,f,e⟩:=eK (better:=λc=>M (c>0)) (R:=br q (cK k W)) k
  rw[e]
  cases j with
  |zero=>exact cz (k:=0) (W:=λ_=>0) A b
  |succ j=>exact cz (dD (dn d (kQ a)) O) b
def qo(σ:Nat->Nat)(F:Nat->ay)(j:Nat):bt.le σ (eD F j) (eD F j):=⟨⟨rfl,rfl⟩,⟨rfl,rfl⟩,⟨rfl,rfl⟩,⟨rfl,rfl⟩,⟨rfl,rfl⟩,⟨rfl,rfl⟩,⟨rfl,rfl⟩,⟨rfl,rfl⟩,⟨rfl,rfl⟩,⟨rfl,rfl⟩,rfl,rfl,trivial⟩
def Hn:aC PP II:=aC.l8 117
 (λX args a=>match args with
  |[.agg [.str [49],.str [49]]]=>a (.int d_ 1)
  |_=>X.fail)
 λX sem hX args a h=>by
  split at h
  ·refine⟨_,h,λ_=>rfl,λ_=>rfl,kz (ks:=[OQ,YF]) (T:=[]) ?_⟩
   rw[RO]
   exactλ_=>⟨rfl,rfl⟩
  ·exact zR
def Tt{n:Nat}{F:Nat->ay}(hn:n<=400):aE PP II false (aD II 172 2001) 12 (Vp n F c_ 0) (Vq n F):=by
 have key:=aE.of (ι:=Int) iw [] (bm PP II []) 1000 (c:=aD II 172 2001) (ir:=false) 12 (λi=> ∃k:Nat,i=(k:Int)/\k<=n) (λi=>Vp n F c_ i) (λ_=>Vq n F) (λi=>n-i.toNat) (λi=>i+1) 0 A ⟨0,rfl,D_ n⟩ λp a=>?_
 ·exact key
 have g:z n=(n:Int):=rfl
 obtain⟨k,rfl,l⟩:=a
 have go:∀Q:Prop,(k<n->Q)->kr [] [] 172 2001 12 (Vp n F c_) (λ_=>Vq n F) (λi=>i+1) Q (k:Int):=λQ hQ=>by
  rw[R4,show c_ (k:Int)=k from rfl,show c_ ((k:Int)+1)=k+1 by omega]
  refine Zg (λh=>?_) λh=>?_
  ·have b:k<n:=by omega
   have d:(M ((0:Int)<=(k:Int))&&M ((k:Int)<z n))=true:=by simp only[bf,bn];omega
   have f:(M (k<=k)&&true&&true&&M ((k+1)*80<=140737488355328)&&true)=true:=by rw[bW (dw k),bW (O:(k+1)*80<=140737488355328)];rfl
   exact cC _ _ d (cC _ _ f (cC _ _ (aq O O) (YG A ⟨pn (λj=>aF (F j)) k (λj σ=>cL σ _) A,Zf A (YG A ⟨λj _ σ=>qo σ F j,YG A (Zf A (hQ b))⟩)⟩)))
  ·have e:k=n:=by omega
   subst e
   exact YG A ⟨λj _ σ=>cL σ _,YG A trivial⟩
 exact go _ λh=>⟨⟨k+1,rfl,O⟩,ZE,rfl⟩
def VL{n:Nat}{F:Nat->ay}(hn:n<=400):af PP II 118 [.ab n 12 (eD F)] (w_ 12) (.ret (cm n F) (w_ 12)):=by
 refine bY (ks:=[]) (T:=[(2001,12,Vp n F c_ 0,Vq n F)]) (λσ=>⟨rfl,rfl,λj _=>cL σ _⟩) ?_
 rw[VG]
 refine⟨Tt hn,YG A (YG A ⟨λj _ σ=>qo σ F j,YG A (Zf A (cC _ _ ?_ A))⟩)⟩
 rw[bW (dw n),Bool.and_true]
 exact List.all_eq_true.2 λ_ _=>rfl
def Hp:List AV->Option ay
 |[.int d_ t,.int d_ s,.int d_ v,.int d_ w,.int d_ o,.int d_ p,.int d_ d,.int d_ l,.int d_ h,.int d_ b,.str [49],.str [49]]=>Option.some ⟨t,s,v,w,o,p,d,l,h,b⟩
 |_=>Option.none
def qP(f:Nat->List AV)(i:Nat):ay:=match Hp (f i)with|some x=>x|none=>⟨0,0,0,0,0,0,0,0,0,0⟩
def JR(n:Nat)(f:Nat->List AV):Bool:=(f_ n).all λi=>(Hp (f i)).isSome
def Hq{n:Nat}{f:Nat->List AV}(h:JR n f=true):AV.le (λl=>l) (.ab n 12 f) (.ab n 12 (eD (qP f))):=by
 refine⟨rfl,rfl,λi hi=>?_⟩
 have:=List.all_eq_true.1 h i (List.mem_range.2 hi)
 unfold eD qP
 cases hx:Hp (f i)with
 |none=>rw[hx]at this;cases this
 |some x=>
  simp only
  have e:f i=ON x:=by
   unfold Hp at hx
   split at hx
   ·rename_i e;cases hx;exact e
   ·cases hx
  rw[e];exact qo _ (λ_=>x) 0
def Bi(n:Nat)(F:Nat->ay):JR n (eD F)=true:=List.all_eq_true.2 λ_ _=>rfl
def Wh:aC PP II:=aC.pure 118
 (λX args b=>match args with
  |[.ab n 12 f]=>X.ak (JR n f&&o_ n 400) (b (cm n (qP f)))
  |_=>X.fail)
 λX sem hX args b h=>by
  split at h
  ·obtain⟨a,c⟩:=hX.ak _ _ h
   rw[bf]at a
   exact⟨_,c,λ_=>rfl,λ_=>rfl,(VL (jX a.2)).dq ⟨Hq a.1,trivial⟩⟩
  ·exact zR
def VM(n:Nat)(F:Nat->ay)(i:Int):St:={t:=i_ [(0,.ab n 12 (eD F)),(5,.ab n 12 (eD F)),(6,.int d_ (z n)),(7,.int d_ i)],nt:=48,H:={n:=12,t:=i_ [(6,.cells dz (.ex 20))]},df:=[]}
def VN(n:Nat)(F:Nat->ay):GE:=.one (.x 0 {t:=i_ [(0,.ab n 12 (eD F))],nt:=48,H:={n:=12,t:=i_ [(6,.cells dz (.ex 20))]},df:=[]})
def TA(n:Nat)(F:Nat->ay)(i:Int)(Q:Prop):(kr [Hn] [] 54 2001 12 (VM n F) (λ_=>VN n F) (λi=>i+1) Q i)=(ah (M (i<z n)) (B (M (0<=i)&&M (i<z n)) (ah (M (i>0)) (B (aN d_ (i-1)) (B (M (0<=i-1)&&M (i-1<z n)) (ah (M (ay.t (F i.toNat)=ay.t (F (c_ (i-1))))) (B (aN d_ (i-1)) (B (M (0<=i-1)&&M (i-1<z n)) (B (aN d_ (i+1)) (zyI (i+1) (zyN n (zyR n (eD F) (zyN n (zyR n (eD F) (zyI (z n) Q))))))))) (B (aN d_ (i+1)) (zyI (i+1) (zyN n (zyR n (eD F) (zyN n (zyR n (eD F) (zyI (z n) Q)))))))))) (B (aN d_ (i+1)) (zyI (i+1) (zyN n (zyR n (eD F) (zyN n (zyR n (eD F) (zyI (z n) Q))))))))) (zyN n (zyR n (eD F) True))):=U
def VO(n:Nat)(F:Nat->ay)(Q:AV->Prop):(kp [Wh,uT] [(2001,12,VM n F 0,VN n F)] 54 [.ab n 12 (eD F)] Q)=(aE PP II false (aD II 54 2001) 12 (VM n F 0) (VN n F)/\zyN n (zyR n (eD F) (zyN n (zyR n (eD F) (zyI (z n) (B (JR n (eD F)&&o_ n 400) (B (M (n<=1000000)&&fh n λi=>aF (qP (eD F) i)) (Q (t_ (cX n (bP λi=>aF (qP (eD F) i)))))))))))):=U
def KB:aC PP II:=aC.pure 48
 (λX args a=>match args with
  |[.int d_ 1]=>a (.agg [.str [49],.str [49]])
  |_=>X.fail)
 λX sem hX args a h=>by
  split at h
  ·refine⟨_,h,λ_=>rfl,λ_=>rfl,bY (ks:=[]) (T:=[]) (λ_=>⟨rfl,rfl,trivial⟩) ?_⟩
   have e:∀Q:AV->Prop,kb [] [] 48 [.int d_ 1] Q=Q (.agg [.str [49],.str [49]]):=λQ=>by as_aux_lemma=>kernel_rfl
   rw[e]
  ·exact zR
def VP(n:Nat)(F:Nat->ay)(m:Int->Nat)(i:Int):St:={t:=i_ [(0,.ab n 10 (λj=>aF (F j))),(1,.aw),(5,.own 12 (m i) 12),(6,.int d_ i)],nt:=41,H:={n:=13,t:=i_ [(12,.rows (m i) 12 (eD F) (.ty 57))]},df:=[]}
def VQ(n:Nat)(F:Nat->ay):GE:=.one (.x 0 {t:=i_ [(5,.own 12 n 12)],nt:=41,H:={n:=13,t:=i_ [(12,.rows n 12 (eD F) (.ty 57))]},df:=[]})
def TB(n:Nat)(F:Nat->ay)(m:Int->Nat)(i:Int)(Q:Prop):(kr [KB] [] 19 3004 12 (VP n F m) (λ_=>VQ n F) (λi=>i+1) Q i)=(ah (M (i<z n)) (B (M (0<=i)&&M (i<z n)) (B (M (ay.t (F i.toNat)=ay.t (F i.toNat))&&(M (ay.s (F i.toNat)=ay.s (F i.toNat))&&(M (ay.v (F i.toNat)=ay.v (F i.toNat))&&(M (ay.w (F i.toNat)=ay.w (F i.toNat))&&(M (ay.o (F i.toNat)=ay.o (F i.toNat))&&(M (ay.p (F i.toNat)=ay.p (F i.toNat))&&(M (ay.d (F i.toNat)=ay.d (F i.toNat))&&(M (ay.l (F i.toNat)=ay.l (F i.toNat))&&(M (ay.h (F i.toNat)=ay.h (F i.toNat))&&(M (ay.b (F i.toNat)=ay.b (F i.toNat))&&true)))))))))) (B (M (m i<=m i)&&true&&true&&M ((m i+1)*112<=140737488355328)&&true) (B (aN d_ (i+1)) (ax (m i+1) (m (i+1)) (an (m i+1) (λa=>bif l_ a (m i)then eD F a else H_ 12 (I_ (0+(a-m i)*12) [e_ d_ (ay.t (F i.toNat)),e_ d_ (ay.s (F i.toNat)),e_ d_ (ay.v (F i.toNat)),e_ d_ (ay.w (F i.toNat)),e_ d_ (ay.o (F i.toNat)),e_ d_ (ay.p (F i.toNat)),e_ d_ (ay.d (F i.toNat)),e_ d_ (ay.l (F i.toNat)),e_ d_ (ay.h (F i.toNat)),e_ d_ (ay.b (F i.toNat)),h_ [49],h_ [49]])) (eD F)/\ax (m i+1) (m (i+1)) (zyN n ((an n (λj=>aF (F j)) λj=>aF (F j))/\zyI (i+1) Q)))))))) (ax (m i) n (zyR (m i) (eD F) (ax (m i) n True)))):=U
def TC(n:Nat)(F:Nat->ay)(m:Int->Nat)(Q:AV->Prop):(kb [] [(3004,12,VP n F m 0,VQ n F)] 19 [.ab n 10 (λj=>aF (F j)),.aw] Q)=(aE PP II false (aD II 19 3004) 12 (VP n F m 0) (VQ n F)/\ax (m 0) 0 (ax (m 0) 0 (zyN n ((an n (λj=>aF (F j)) λj=>aF (F j))/\B ((C_ (f_ n) λi=>bt.free (eD F i))&&M (n<=n)) (Q (k_ n 12 (eD F))))))):=U
def yc(q:Query)(X:Nat->bj):Nat->Nat->List UInt8:=nV (aX q.ng (dK X) (jC q X))
def N9(q:Query)(n:Nat)(X:Nat->bj):AV:=.bK [.ab (ju q n (yc q X)) 9 (aX q.ng (λj=>dK X (cS q n (yc q X) j)) λj=>jC q X (cS q n (yc q X) j)),.int d_ 0]
def uo(F:Nat->ay):(bP λi=>aF (F i))=F:=rfl
def jR{k:Nat}{F:Nat->ay}(h:cX k F=true):∀i,i<k->bB (F i)=true:=by
 unfold cX at h
 simp only[bf,bn]at h
 intro i hi
 have:=List.all_eq_true.1 h.1.1 i (List.mem_range.2 hi)
 unfold sQ at this
 simp only[bf]at this
 exact this.1
def jS{k:Nat}{F:Nat->ay}(h:cX k F=true):k<=400:=by
 unfold cX at h
 simp only[bf,bn]at h
 exact h.1.2
def r7(n:Nat)(X:Nat->bj):Prop := ∀i,i<n->(X i).m<=1000/\fA (X i).L (X i).m/\fA (X i).G (X i).m
def JQ(q:Query)(n:Nat)(X:Nat->bj)(i:Nat)(hi:i<n)(hn:n<=1000000)(c:ct q=true)(hX:r7 n X)(j:Int)(o:j=(i:Int))(Q:Prop)(hQ:Q):
  kr [r6 q] [] 13 5001 15 (QZ q n X (dK X) (jC q X) c_) (λ_=>Q0 q n (dK X) (jC q X)) (λi=>i+1) Q j:=by
 rw[Df]
 obtain⟨b,hL,hG⟩:=hX i hi
 have d:c_ j=i:=O
 have e:c_ (j+1)=i+1:=O
 have p:z n=(n:Int):=rfl
 rw[d,e]
 have f:ka (az (X i).L (X i).G (X i).C)=(X i).L:=rfl
 have g:iF (az (X i).L (X i).G (X i).C)=(X i).G:=rfl
 have k:iG (az (X i).L (X i).G (X i).C)=(X i).C:=rfl
 rw[f,g,k,jv,c,rS,dn b hL,dn b hG]
 have rows:=AZ q.ng (dK X) (dK X) (jC q X) (jC q X) i i A A
 have r:=eP (i+1) q.ng (dK X) (jC q X)
 have l:an n (qN q.ng X) (qN q.ng X):=λi _ σ=>⟨⟨⟨⟨rfl,rfl,λj _=>jw _ _ j⟩,⟨rfl,rfl,λj _=>kS _ _ _ _ j⟩,⟨rfl,rfl,λj _=>jw _ _ j⟩,trivial⟩,rfl⟩,trivial⟩
 have m:(M (i<=i)&&true&&true&&M ((i+1)*152<=140737488355328)&&true)=true:=by rw[bW (dw i),bW (O:(i+1)*152<=140737488355328)];rfl
 have a:aN d_ (j+1)=true:=aq O O
 refine Zg (λ_=>?_) λh=>absurd h O
 refine cC _ _ zN (cC _ _ A (cC _ _ m (cC _ _ a ?_)))
 repeat' (first|with_reducible refine Zf A ?_|with_reducible refine YG A ?_|with_reducible refine Zi A ?_|with_reducible refine And.intro ?_ ?_|with_reducible exact bC _ _|with_reducible exact bO _ _|with_reducible exact aZ|with_reducible exact rows|with_reducible exact hQ|exact rows|exact l)
def Q2(q:Query)(n:Nat)(X:Nat->bj)(j:Int)(c:j=(n:Int))(Q:Prop):
  kr [r6 q] [] 13 5001 15 (QZ q n X (dK X) (jC q X) c_) (λ_=>Q0 q n (dK X) (jC q X)) (λi=>i+1) Q j:=by
 rw[Df]
 have a:c_ j=n:=O
 have d:z n=(n:Int):=rfl
 rw[a]
 have b:=eP n q.ng (dK X) (jC q X)
 refine Zg (λh=>absurd h O) (λ_=>?_)
 repeat' (with_reducible first|refine Zf A ?_|refine YG A ?_|refine Zi A ?_|refine And.intro ?_ ?_|exact bC _ _|exact bO _ _|exact aZ|exact b|exact trivial)
def Oa(q:Query)(n:Nat)(X:Nat->bj)(hn:n<=1000000)(a:ct q=true)(hX:r7 n X):aE PP II false (aD II 13 5001) 15 (QZ q n X (dK X) (jC q X) c_ 0) (Q0 q n (dK X) (jC q X)):=by
 have key:=aE.of (ι:=Int) iw [r6 q] (bm PP II []) 1000 (c:=aD II 13 5001) (ir:=false) 15 (λj=> ∃i:Nat,j=(i:Int)/\i<=n) (λj=>QZ q n X (dK X) (jC q X) c_ j) (λ_=>Q0 q n (dK X) (jC q X)) (λj=>n-j.toNat) (λj=>j+1) 0 A ⟨0,rfl,D_ _⟩ λj b=>?_
 ·exact key
 obtain⟨i,hi,d⟩:=b
 by_cases h:i<n
 ·exact JQ q n X i h hn a hX j hi _ ⟨⟨i+1,O,O⟩,O,rfl⟩
 ·exact Q2 q n X j O _
def tm{q:Query}{k:Nat}{F:Nat->ay}(c:eU q=true)(b:cX k F=true):r7 (aV q F k).length (og q (aV q F k)):=λi hi=>by
 have g:=jS b
 obtain⟨d,e,f⟩:=y6 F c k (jR b)
 have a:=u4 q.ng (aV q F k).length (fj q.ng (aV q F k)) hi
 exact⟨Nat.le_trans (d _ a) O,e _ a,f _ a⟩
def Q3{q:Query}{n:Nat}{X:Nat->bj}(a:eU q=true)(hX:r7 n X):Ft n (yc q X)=true:=List.all_eq_true.2 λi hi=>by
 obtain⟨b,c,d⟩:=hX i (List.mem_range.1 hi)
 show(bJ (eO q (X i).m (X i).L (X i).C).1 (eO q (X i).m (X i).L (X i).C).2&&bJ (dQ q (X i).m (X i).G (X i).C).1 (dQ q (X i).m (X i).G (X i).C).2)=true
 rw[y7 b c a,y8 b d a];rfl
def Hi(n g:Nat)(K:Nat->Nat->Int)(S:Nat->Nat->List UInt8):((f_ n).all λi=>bt.free (aX g K S i))=true:=List.all_eq_true.2 λ_ _=>rfl
def Ob(q:Query)(n:Nat)(S:Nat->Nat->List UInt8):ju {nw:=q.nw,C:=bG (au q.C),ng:=q.ng,G:=λj=>q.G j,a:=q.a,fl:=q.fl,nu:=q.nu,de:=q.de,top:=q.top} n S=ju q n S:=rfl
def Hj(q:Query)(n:Nat)(S:Nat->Nat->List UInt8):cS {nw:=q.nw,C:=bG (au q.C),ng:=q.ng,G:=λj=>q.G j,a:=q.a,fl:=q.fl,nu:=q.nu,de:=q.de,top:=q.top} n S=cS q n S:=rfl
def Q4{q:Query}{k:Nat}{F:Nat->ay}(n:Nat)(X:Nat->bj)(e:ct q=true)(c:cX k F=true)(hn:(aV q F k).length=n)(f:an n (lX q.ng n (fj q.ng (aV q F k))) (qN q.ng X))(b:n<=1000000)(d:Ft n (yc q X)=true)
  (lp:aE PP II false (aD II 13 5001) 15 (QZ q n X (dK X) (jC q X) c_ 0) (Q0 q n (dK X) (jC q X))):kq [u5 q,uT,rZ q,Hg] [(5001,15,QZ q n X (dK X) (jC q X) c_ 0,Q0 q n (dK X) (jC q X))] 13 [.agg (aY q),cm k F] (λa=> ∀σ,AV.le σ a (N9 q n X)):=by
 have m:=jS c
 obtain⟨r1,g,o⟩:=eb e
 rw[Uz q k F n X (dK X) (jC q X) c_,uo,jv,e,c,Ob,Hj,hn,jt r1 g,y0,Hi]
 rw[show nV (aX q.ng (dK X) (jC q X))=yc q X from rfl,d]
 have l:ie k (λi=>aF (F i))=true:=by
  unfold ie
  rw[gr,Bool.true_and]
  exact List.all_eq_true.2 λi hi=>jR c i (List.mem_range.1 hi)
 have fl:=gU k F
 have a1:(n_ n n&&bt.free (aY q)&&true)=true:=by rw[ni];rfl
 have a2:(true&&true&&true&&o_ n 1000000)=true:=by rw[kV b];rfl
 refine cC _ _ A (cC _ _ (by rw[gr,bW (O:k<=1000000)];rfl) (Zh (λh=>zE) λ_=>?_))
 refine cC _ _ (by rw[l,kV (O:k<=1000000)];rfl) ⟨lp,?_⟩
 repeat' (first|with_reducible refine Zf A ?_|with_reducible refine YG A ?_|with_reducible refine Zi A ?_|with_reducible refine And.intro ?_ ?_|with_reducible exact bC _ _|with_reducible exact bO _ _|with_reducible exact aZ|with_reducible exact f|with_reducible refine cC _ _ a2 ?_|with_reducible refine cC _ _ a1 ?_|refine cC _ _ a1 ?_)
 exactλσ=>⟨⟨rfl,rfl,λi _=>⟨⟨rfl,rfl,λj _=>⟨⟨rfl,rfl⟩,trivial⟩⟩,rfl,rfl,rfl,rfl,rfl,rfl,rfl,rfl,trivial⟩⟩,⟨rfl,rfl⟩,trivial⟩
def UA{q:Query}{k:Nat}{F:Nat->ay}(a:ct q=true)(b:cX k F=true):af PP II 13 [.agg (aY q),cm k F] HR (.ret (N9 q (aV q F k).length (og q (aV q F k))) HR):=by
 have d:=jS b
 have c:=(lG q F k).len
 have hX:=tm (eb a).2.2 b
 have lp:=Oa q (aV q F k).length (og q (aV q F k)) O a hX
 exact qh (Q4 _ _ a b A (qM _ _ _) O (Q3 (eb a).2.2 hX) lp)
end
end Go.Sx
