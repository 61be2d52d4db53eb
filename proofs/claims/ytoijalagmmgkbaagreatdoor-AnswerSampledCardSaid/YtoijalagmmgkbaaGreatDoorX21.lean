/- Lemmas, part 21. -/
import Derived.Test.YtoijalagmmgkbaaGreatDoorX20
set_option linter.all false
set_option linter.defProp false
set_option maxRecDepth 1000000
namespace Go.Sx
open Go
open Decidable renaming decide->M
open Int renaming ofNat->z,toNat->k_,sub_zero->s_
open Go.IntKind renaming i64->a_
open Tr renaming ofList->b_
open List renaming range->c_,mem_filter->p_
open AH renaming get_set_same->d_,pr->q_
open AV renaming ab->e_,bool->f_,int->h_,qP->j_,le->l_
open Bool renaming not_eq_false'->g_
open _root_.Array renaming getElem?_setIfInBounds->i_,toList_filter->m_
open Option renaming none->n_,some->o_
noncomputable section
section
theorem uE{P:Program}{I:ba}{ι:Type}{n0:Nat}{J:ι->Prop}{S:ι->St}{E:ι->aQ}{H:ι->Nat}{c:Code}{ir:Bool}(u:I.G<=n0)
  (h:∀i,J i->∀ro n b ρ a w,(ir=false->ro=n_)->b.G=I.G->cA b ρ (S i) a w->c.wpIn (WF ro) n P (λx a w=> ∃e,Round n0 J S E H i e/\e.post b ρ x a w) a w):
  ∀m i,J i->H i<m->∀t,t= .inLoop c∨t= .code (.loop c)->∀ro n b ρ a w,(ir=false->ro=n_)->b.G=I.G->(∀l,b.E l->l<n0)->cA b ρ (S i) a w->fG (WF ro) n P t ((E i).kx n0 b ρ) a w:=by
 intro m
 induction m with
 |zero=>omega
 |succ m K=>
  intro i L hi t ht ro n b ρ a w k hG o N
  refine mB t ht ?_
  refine wpIn_mono (h i L ro n b ρ a w k hG N) λx a1 Q d=>?_
  obtain⟨e,q,d⟩:=d
  have f:b.G<=n0:=by rw[hG];exact u
  cases e with
  |n s=>
   cases x with
   |normal=>
    obtain⟨R,hx,y⟩:=d
    obtain⟨j,B,V,C,D⟩:=q
    obtain⟨F,T,U⟩:=y.view C f o
    have:=K j B O (.inLoop c) (.inl A) ro n b F a1 Q k hG o U
    rw[D]at this
    exact this.mono λx a w d=>aQ.ja ((OK.of hx).trans T) d
   |_=>exact d.elim
  |x i s=>
   cases x with
   |exit id=>exact aQ.jk q f o (aQ.ji d)
   |_=>exact d.elim
  |g i s=>
   cases x with
   |goto id=>exact aQ.jk q f o (aQ.ji d)
   |_=>exact d.elim
  |r s=>
   cases x with
   |ret=>exact aQ.jk q f o (aQ.ji d)
   |_=>exact d.elim
  |p v s=>simp only[Round,aQ.Le]at q
theorem wF{P I ι s J S E}(k){c ir}{i:ι}(d:I.G<=s.H.n)(o:J i)(start:St.Le s.H.n s (S i))
  (f:∀i,J i->∀ro n b ρ a w,(ir=false->ro=n_)->b.G=I.G->cA b ρ (S i) a w->c.wpIn (WF ro) n P (λx a w=> ∃e,Round s.H.n J S E k i e/\e.post b ρ x a w) a w):Dj P I ir (.code (.loop c)) s (E i):=by
 intro ro n b ρ a w g hG h
 have m:∀l,b.E l->l<s.H.n:=λl hl=>(h.heap.env l hl).1
 obtain⟨j,p,q⟩:=h.view start (by rw[hG];exact d) m
 have:=uE d f (k i+1) i o (Nat.lt_succ_self _) _ (.inr A) ro n b j a w g hG m q
 exact this.mono λx a w r=>aQ.nG h.heap A (aQ.ja p r)
section
variable {P:Program} {I:ba} (hI:I.Ok P)
def lA(ks:List (aC P I))(a:gy Prop)(fuel:Nat)(ir:Bool)(ops:Array Oper)(b:Oper)(y:Code)(k:KS Prop)(s:St):Prop :=
 SC RI.jY I (nB RI.jY I (known RI.jY ks) (uA ks a fuel)) (roundOf RI.jY (uA ks a fuel)) ops {k with n:=λc=>uA ks a fuel ir (.code y) c k} [b] s
include hI in
theorem tY{ks:List (aC P I)}{F:gy Prop}(B:eR P I id F){fuel:Nat}{ir:Bool}{ops:Array Oper}{H C:Oper}(q:ops= #[H,C]){y:Code}{k:KS Prop}{s:St}(h:lA ks F fuel ir ops C y k s):
  ∃e:aQ,e.sem id k/\∀ro n c ρ a w (Q:Exit->Act->World->Prop),(ir=false->ro=n_)->c.G=I.G->cA c ρ s a w->(∀x a' w',e.post c ρ x a' w'->Q x a' w')->wpOpsIn (WF ro) n P ops (Exit.then (y.wpIn (WF ro) n P Q) Q) [1] a w:=by
 have d:=nH hI ks B fuel
 have m:=VU RI.dJ hI (vU RI.dJ ks) d
 have j:=vJ RI.dJ (P:=P) (I:=I) d
 obtain⟨e1,t,o⟩:=vR RI.dJ hI m j [C] 1 s (by rw[q];rfl) h
 have o:∀ro n c ρ a w (Q:Exit->Act->World->Prop),c.G=I.G->cA c ρ s a w->(∀x a' w',e1.post c ρ x a' w'->Q x a' w')->wpOpsIn (WF ro) n P ops Q [1] a w:=o
 cases e1 with
 |n s1=>
  obtain⟨J,K,L⟩:=d _ _ _ _ t
  refine⟨J,K,λro n c ρ a w Q f hG l hQ=>o ro n c ρ a w _ hG l λx a1 u b=>?_⟩
  cases x with
  |normal=>
   obtain⟨D,hx,E⟩:=b
   exact wpIn_mono (L ro n c D a1 u f hG E) λx a2 N b=>hQ _ _ _ (aQ.gO hx b)
  |_=>exact b.elim
 |x i s1=>
  refine⟨.x i s1,t,λro n c ρ a w Q f hG l hQ=>o ro n c ρ a w _ hG l λx a1 u b=>?_⟩
  cases x with
  |exit id=>exact hQ _ _ _ b
  |_=>exact b.elim
 |g i s1=>
  refine⟨.g i s1,t,λro n c ρ a w Q f hG l hQ=>o ro n c ρ a w _ hG l λx a1 u b=>?_⟩
  cases x with
  |goto id=>exact hQ _ _ _ b
  |_=>exact b.elim
 |r s1=>
  refine⟨.r s1,t,λro n c ρ a w Q f hG l hQ=>o ro n c ρ a w _ hG l λx a1 u b=>?_⟩
  cases x with
  |ret=>exact hQ _ _ _ b
  |_=>exact b.elim
 |p v s1=>
  refine⟨.p v s1,t,λro n c ρ a w Q f hG l hQ=>o ro n c ρ a w _ hG l λx a1 u b=>?_⟩
  cases x with
  |panic O=>exact hQ _ _ _ b
  |_=>exact b.elim
def uX(a:Oper)(s:St):St:=s.put a.dst (.qP [.bool false])
def AM(a:Oper)(b l n:Nat)(f:Nat->Int)(S:List Nat)(s:St)(j:Nat):St:=(s.heap (s.H.set b (.dX l n (j::S)))).put a.dst (.qP [.bool true,.int a_ (f j),.bool true])
include hI in
theorem Fc{ks:List (aC P I)}{U:gy Prop}(E:eR P I id U){fuel:Nat}{ir:Bool}{id:Nat}{ops:Array Oper}{g V:Oper}(h:ops= #[g,V]){it:Operand}(u:g.op= .next it false)(hg:g.guard=n_){y:Code}{k:KS Prop}{kj:Nat->KS Prop}{G:aQ->Prop}(hk:∀e:aQ,e.sem _root_.id k->G e)(W:∀j (e:aQ),e.sem _root_.id (kj j)->G e){s:St}
  {C l n:Nat} {f:Nat->Int} {S:List Nat} (X:s.ev I.G it= .ptr C 0 0 0) (hi:s.H.get C= .dX l n S) (hl:s.H.get l= .iy n f)
  (F:(∀j,j<n->j∈S)->lA ks U fuel ir ops V y k (uX g s)) (Y:∀j,j<n->j∉S->lA ks U fuel ir ops V y (kj j) (AM g C l n f S s j))
  (ro:Option Nat) (Z:Nat) (c:fw) (ρ:Env) (a:Act) (w:World) (J:ir=false->ro=n_) (hG:c.G=I.G) (v:cA c ρ s a w):
  (Code.seq (.region id ops false) y).wpIn (WF ro) Z P (λx a w=> ∃e:aQ,G e/\e.post c ρ x a w) a w:=by
 have B:=v.ev hG it
 rw[X]at B
 simp only[VR]at B
 obtain⟨r,R',K,B⟩:=B
 have L:=v.heap.dF C
 rw[hi,K]at L
 obtain⟨b,N,m,d,e1,e2,e3⟩:=L
 cases e1
 have O:=v.heap.dF l
 rw[hl,e2]at O
 obtain⟨b2,N2,f1,f2⟩:=O
 cases f1
 simp only[Nat.zero_mul,Nat.zero_add]at B
 have hd:∀c,g.op≠ .defer c:=by intro c;rw[u];simp
 have Q:∀x∈(dM n f).toArray.toList,x.born<n:=by
  intro x hx
  obtain⟨i,hi,rfl⟩:=List.mem_map.1 hx
  exact List.mem_range.1 hi
 refine wpIn_seq (wpIn_region ?_)
 have ad:c_ ops.size=[0,1]:=by rw[h];rfl
 rw[ad]
 refine oq (o:=g) (by rw[h];rfl) (by simp[Region.wanted,hg]) ⟨iA,?_⟩
 rw[Oper.semAt_eq _ _ _ hd]
 rcases Go.run_next_at (P:=P) w g.type r m n n S.reverse.toArray (dM n f).toArray n e3 f2 Q (dw _)with⟨h0,p⟩|⟨x,hx,t,ag,p⟩
 ·have R:∀j,j<n->j∈S:=by
   intro j T
   apply Classical.byContradiction
   intro q
   have h1:({key:=.int a_ (f j),val:=.bool true,born:=j}:MapEntry)∈(leftOf (dM n f).toArray S.reverse.toArray).toList:=by
    simp only[leftOf,m_,p_]
    exact⟨vB T,by simpa using q⟩
   have h2:=Array.eq_empty_of_size_eq_zero h0
   rw[h2]at h1
   simp at h1
  obtain⟨e,k1,k2⟩:=tY hI E h (F R)
  have e4:(execOp a.eval g).run P w= .ok (.value (.tuple #[.bool false])) w:=by
   simp only[execOp,u,B,Sem.run_bind,p,Result.andThen_ok,Sem.run_pure]
  rw[e4,Oper.uponIn_value]
  have hs:cA c ρ (uX g s) (a.put g.dst (.tuple #[.bool false])) w :=
   v.put (Ext.refl ρ) v.heap (by simp only[VR];exact⟨[.bool false],rfl,aU.aL.2 ⟨zB,zH⟩⟩) g.dst
  exact k2 ro Z c ρ _ w _ J hG hs λx a1 t hp=>⟨e,hk e k1,hp⟩
 ·simp only[leftOf,m_,p_]at hx
  obtain⟨ai,ak⟩:=hx
  obtain⟨j,T,rfl⟩:=List.mem_map.1 ai
  have T:=List.mem_range.1 T
  have q:j∉S:=by simpa using ak
  obtain⟨e,k1,k2⟩:=tY hI E h (Y j T q)
  have e4:(execOp a.eval g).run P w= .ok (.value (.tuple #[.bool true,.int a_ (f j),.bool true])) (ChangeMaps.setBlock t r (.mapIter (o_ m) n (S.reverse.toArray.push j) n)):=by
   simp only[execOp,u,B,Sem.run_bind,p,Result.andThen_ok,Sem.run_pure]
  rw[e4,Oper.uponIn_value]
  have ap:r<w.heap.size:=(Array.getElem?_eq_some_iff.1 e3).1
  have D:t.heap=w.heap/\t.os=w.os/\t.output=w.output/\t.tape=w.tape:=by rcases ag with rfl|rfl<;>exact⟨rfl,rfl,rfl,rfl⟩
  have a6:Rel c ρ (s.H.set C (.dX l n (j::S))) (ChangeMaps.setBlock t r (.mapIter (o_ m) n (S.reverse.toArray.push j) n)):=by
   refine v.heap.fC _ (by rw[hi];rfl) K (λi q=>?_) ?_ D.2.1 D.2.2.1 D.2.2.2 ?_
   ·simp only[ChangeMaps.setBlock,D.1]
    rw[i_,if_neg (λe=>q e.symm)]
   ·simp only[ChangeMaps.setBlock,D.1]
    simp
   ·refine⟨r,_,m,d,rfl,e2,?_⟩
    simp only[ChangeMaps.setBlock,D.1]
    rw[i_,if_pos A,if_pos ap]
    simp
  have hs:cA c ρ (AM g C l n f S s j) (a.put g.dst (.tuple #[.bool true,.int a_ (f j),.bool true])) (ChangeMaps.setBlock t r (.mapIter (o_ m) n (S.reverse.toArray.push j) n)):=
   v.put (Ext.refl ρ) a6 (by simp only[VR];exact⟨[.bool true,.int a_ (f j),.bool true],rfl,aU.aL.2 ⟨zB,aU.aL.2 ⟨zB,aU.aL.2 ⟨zB,zH⟩⟩⟩⟩) g.dst
  exact k2 ro Z c ρ _ _ _ J hG hs λx a1 t hp=>⟨e,W j e k1,hp⟩
theorem eu.walk(hI:I.Ok P)(ks:List (aC P I)){C:gy Prop}(D:eR P I id C)(fuel:Nat){ι:Type}{c:Code}{ir:Bool}{F:Nat}{o t:Oper}{y:Code}(W:c= .seq (.region F #[o,t] false) y){it:Operand}(L:o.op= .next it false)(X:o.guard=n_)
  (n0:Nat) (J:ι->Prop) (S:ι->St) (E:ι->GE) (q:ι->Nat) (m:ι->Nat->ι) (N:ι) (O l:Nat) (n:ι->Nat) (f:ι->Nat->Int) (d:ι->List Nat)
  (Z:Nat.ble I.G n0=true) (hJ:J N) (R:∀i,J i->(S i).ev I.G it= .ptr O 0 0 0/\(S i).H.get O= .dX l (n i) (d i)/\(S i).H.get l= .iy (n i) (f i))
  (u:∀i,J i->(∀j,j<n i->j∈d i)->lA ks C fuel ir #[o,t] t y (tP n0 S E (λi=>i) False i) (uX o (S i)))
  (T:∀i,J i->∀j,j<n i->j∉d i->lA ks C fuel ir #[o,t] t y (tP n0 S E (λi=>m i j) (J (m i j)/\q (m i j)<q i/\(E (m i j)).pick=(E i).pick) i) (AM o O l (n i) (f i) (d i) (S i) j)):
  eu P I ir c n0 (S N) (E N) where
 h s0 U hs:=by
  subst U
  refine wF (S:=S) (E:=λi=>(E i).pick) (J:=J) q ZD hJ hs λi hi ro nn cx ρ a w V hG hr=>?_
  obtain⟨h1,h2,h3⟩:=R i hi
  rw[W]
  have mono:∀(m:ι->ι)(Q:Prop),(Q->J (m i)/\q (m i)<q i/\(E (m i)).pick=(E i).pick)->∀e:aQ,e.sem id (tP s0.H.n S E m Q i)->Round s0.H.n J S (λi=>(E i).pick) q i e:=by
   intro m Q hQ e B
   cases e with
   |n s=>
    obtain⟨k1,k2⟩:=mF.ok (K:=Q) B
    obtain⟨k3,k4,k5⟩:=hQ k2
    exact⟨m i,k3,k4,k1,k5⟩
   |x b s=>exact GE.fg (g:=E i) B
   |g b s=>exact GE.fg (g:=E i) B
   |r s=>exact GE.fg (g:=E i) B
   |p v s=>exact B.elim
  exact Fc hI D A L X Y (λj=>Y) h1 h2 h3 (u i hi) (T i hi) ro nn cx ρ a w V hG hr
end
end
def HO:AH:={n:=12,t:=b_ [(0,.cells [.ab 5 2 aA] .ro)]}
abbrev ko(ks:List (aC PP II))(T:lI)(f:FuncId)(args:List AV)(Q:AV->Prop):Prop :=
 jE ks (mG PP II T) 1000 f args HO (λa H=>qC RI.jY 100000 a H λa' H2=>aa (Nat.ble 12 H2.n) (H2.get 0= .cells [.ab 5 2 aA] .ro/\Q a')) (λ_ _=>False)
def Nl:Code->Code
 | .seq _ y=>y
 |_=> .skip
def Qy:Code->Array Oper
 | .seq (.region _ ops _) _=>ops
 |_=> #[]
def Uc:Code->Nat
 | .seq (.region id _ _) _=>id
 |_=>0
def Ud:Oper:={dst:=n_,op:=.entry (.tmp 0),type:=0,pos := "",after := #[],guard:=n_}
def oper(c:Code)(i:Nat):Oper:=match(Qy c)[i]? with|some o=>o|none=>Ud
abbrev YV{ι:Type}(ks:List (aC PP II))(T:lI)(f key n0:Nat)(S:ι->St)(E:ι->GE)(i:ι):Prop :=
 lA ks (mG PP II T) 1000 false #[oper (aD II f key) 0,oper (aD II f key) 1] (oper (aD II f key) 1) (Nl (aD II f key)) (tP n0 S E (λi=>i) False i) (uX (oper (aD II f key) 0) (S i))
abbrev YW{ι:Type}(ks:List (aC PP II))(T:lI)(f key n0:Nat)(S:ι->St)(E:ι->GE)(b:ι->ι)(Q:Prop)(i:ι)(c l n:Nat)(K:Nat->Int)(a:List Nat)(j:Nat):Prop :=
 lA ks (mG PP II T) 1000 false #[oper (aD II f key) 0,oper (aD II f key) 1] (oper (aD II f key) 1) (Nl (aD II f key)) (tP n0 S E b Q i) (AM (oper (aD II f key) 0) c l n K a (S i) j)
def WT(q:Query)(x:ay)(c p:Int->Bool)(lo hi:Int->Int)(n:Int->Nat)(K:Int->Nat->Int)(i:Int):St:={t:=b_ [(2,.ptr 12 0 0 0),(3,.ptr 13 0 0 0),(7,.bool (c i)),(8,.bool (p i)),(9,.int a_ (lo i)),(10,.int a_ (hi i)),(11,.map (o_ 20)),(31,.ab q.nw 3 (au q.C)),(32,.int a_ q.nw),(33,.int a_ i)],nt:=124,H:={n:=21,t:=b_ [(0,.cells [.ab 5 2 aA] .ro),(12,.cells (aY q) (.ty 32)),(13,.cells (eD x) (.ty 48)),(20,.iy (n i) (K i))]},df:=[]}
def WU(x:ay)(c p:Bool)(lo hi:Int)(n:Nat)(K:Nat->Int):GE:=.one (.x 0 {t:=b_ [(3,.ptr 13 0 0 0),(7,.bool c),(8,.bool p),(9,.int a_ lo),(10,.int a_ hi),(11,.map (o_ 20))],nt:=124,H:={n:=21,t:=b_ [(0,.cells [.ab 5 2 aA] .ro),(13,.cells (eD x) (.ty 48)),(20,.iy n K)]},df:=[]})
def Fe(x:ay)(c p:Bool)(lo hi:Int)(n:Nat)(K:Nat->Int)(left:List Nat->Int)(S:List Nat):St:={t:=b_ [(3,.ptr 13 0 0 0),(7,.bool c),(8,.bool p),(9,.int a_ lo),(10,.int a_ hi),(15,.int a_ (left S)),(97,.ptr 21 0 0 0)],nt:=124,H:={n:=22,t:=b_ [(0,.cells [.ab 5 2 aA] .ro),(13,.cells (eD x) (.ty 48)),(20,.iy n K),(21,.dX 20 n S)]},df:=[]}
def AN(x:ay)(c p:Bool)(left:Int):GE:=.one (.x 3 {t:=b_ [(3,.ptr 13 0 0 0),(7,.bool c),(8,.bool p),(15,.int a_ left)],nt:=124,H:={n:=22,t:=b_ [(0,.cells [.ab 5 2 aA] .ro),(13,.cells (eD x) (.ty 48))]},df:=[]})
def Qz(x)(c p)(lo hi)(n)(K)(left)(a)(S):(YV [] [] 31 24002 22 (Fe x c p lo hi n K left) (λ_=>AN x c p a) S)=(zyI x.t (zyI x.s (zyI x.v (zyI x.w (zyI x.o (zyI x.p (zyI x.d (zyI x.l (zyI x.h (zyI x.b (zyR 5 aA (aH (left S) a (c=c/\p=p/\True))))))))))))):=U
def Ue(x)(c p)(lo hi)(n)(K)(left)(a)(S)(j)(Q):(YW [] [] 31 24002 22 (Fe x c p lo hi n K left) (λ_ => AN x c p a) (λS => j ::S) Q S 21 20 n K S j) = (aa (Nat.beq n n && Nat.blt j n) (ah (M (K j >= lo)) (ah (M (K j <= hi)) (aa (aN a_ (left S - (1:Int))) (zyN n (j ::S = j ::S /\ zyN n ((∀(i),i < n -> K i = K i) /\ zyI (ay.t x) (zyI (ay.s x) (zyI (ay.v x) (zyI (ay.w x) (zyI (ay.o x) (zyI (ay.p x) (zyI (ay.d x) (zyI (ay.l x) (zyI (ay.h x) (zyI (ay.b x) (zyR (5:Nat) aA (aH (left S - (1:Int)) (left (j ::S)) (c = c /\ zyI lo (p = p /\ zyI hi Q))))))))))))))))) (zyN n (j ::S = j ::
 S /\ zyN n ((∀(i),i < n -> K i = K i) /\ zyI (ay.t x) (zyI (ay.s x) (zyI (ay.v x) (zyI (ay.w x) (zyI (ay.o x) (zyI (ay.p x) (zyI (ay.d x) (zyI (ay.l x) (zyI (ay.h x) (zyI (ay.b x) (zyR (5:Nat) aA (aH (left S) (left (j ::S)) (c = c /\ zyI lo (p = p /\ zyI hi Q))))))))))))))))) (zyN n (j ::S = j ::S /\ zyN n ((∀(i),i < n -> K i = K i) /\ zyI (ay.t x) (zyI (ay.s x) (zyI (ay.v x) (zyI (ay.w x) (zyI (ay.o x) (zyI (ay.p x) (zyI (ay.d x) (zyI (ay.l x) (zyI (ay.h x) (zyI (ay.b x) (zyR (5:Nat) aA (aH (left S) (left (j ::S)) (c = c /\ zyI lo (p = p /\ zyI hi Q)))))))))))))))))) :=
 by kernel_rfl
def CA(q)(x)(c p)(lo hi)(n)(K)(cE L)(E F)(N)(O)(i)(Q):(kr [jr] [] 31 7001 21 (WT q x c p lo hi n K) (λ_=>WU x cE L E F N O) (λi=>i+1) Q i)=(let e:=(∀(f),f<n i->K i f=K (i+1) f);let g:=(aH (lo i) (lo (i+1)) (zyI (z q.nw) (false=p (i+1)/\aH (hi i) (hi (i+1)) Q)));let m:=(aa (aN a_ (i+1)) (ax (n i) (n (i+1)) (e/\zyI x.t (zyI x.s (zyI x.v (zyI x.w (zyI x.o (zyI x.p (zyI x.d (zyI x.l (zyI x.h (zyI x.b (zyN q.nw (zyR q.nw (au q.C) (zyN q.ng (zyR q.ng (aR q.G) (zyI q.a (zyI q.fl (zyB q.nu (zyB q.de (zyI q.top (zyR 5 aA (zyN q.nw (zyR q.nw (au q.C) (false=c (i+1)/\zyI (i+1) g)))))))))))))))))))))))));let H:=(zyI x.s (zyI x.v (zyI x.w (zyI x.o (zyI x.p (zyI x.d (zyI x.l (zyI x.h (zyI x.b (zyN q.nw (zyR q.nw (au q.C) (zyN q.ng (zyR q.ng (aR q.G) (zyI q.a (zyI q.fl (zyB q.nu (zyB q.de (zyI q.top (zyR 5 aA (zyN q.nw (zyR q.nw (au q.C) (c i=c (i+1)/\zyI (i+1) (aH (lo i) (lo (i+1)) (zyI (z q.nw) (p i=p (i+1)/\aH (hi i) (hi (i+1)) Q)))))))))))))))))))))))));let j:=(M (q.C i.toNat 1=q.C i.toNat 1));let k:=(M (q.C i.toNat 2=q.C i.toNat 2));let D:=(!decide (gJ x (q.C i.toNat 0) 0=q.C i.toNat 2));let I:=(aH (lo i) (lo (i+1)) (zyI (z q.nw) (M (gJ x (q.C i.toNat 0) 0>=q.C i.toNat 2)=p (i+1)/\aH (hi i) (hi (i+1)) Q)));let J:=(aH (lo i) (lo (i+1)) (zyI (z q.nw) (M (gJ x (q.C i.toNat 0) 0=q.C i.toNat 2)=p (i+1)/\aH (hi i) (hi (i+1)) Q)));let r:=(aH (lo i) (lo (i+1)) (zyI (z q.nw) (M (gJ x (q.C i.toNat 0) 0<q.C i.toNat 2)=p (i+1)/\aH (hi i) (hi (i+1)) Q)));let u:=(aH (lo i) (lo (i+1)) (zyI (z q.nw) (D=p (i+1)/\aH (hi i) (hi (i+1)) Q)));let y:=(aa (aN a_ (i+1)) (ax (n i) (n (i+1)) (e/\zyI x.t H)));let B:=(if q.C i.toNat 2>lo i then q.C i.toNat 2 else lo i);(ah (M (i<z q.nw)) (aa (M (0<=i)&&M (i<z q.nw)) (ah (!decide (q.C i.toNat 0=8)) (ah (M (q.C i.toNat 1=0)) (aa j (aa k False)) (ah (M (q.C i.toNat 1=1)) (aa j (aa k (ah (c i) (ah (p i) (aa (aN a_ (i+1)) (ax (n i) (n (i+1)) (e/\zyI x.t (zyI x.s (zyI x.v (zyI x.w (zyI x.o (zyI x.p (zyI x.d (zyI x.l (zyI x.h (zyI x.b (zyN q.nw (zyR q.nw (au q.C) (zyN q.ng (zyR q.ng (aR q.G) (zyI q.a (zyI q.fl (zyB q.nu (zyB q.de (zyI q.top (zyR 5 aA (zyN q.nw (zyR q.nw (au q.C) (M (gJ x (q.C i.toNat 0) 0=q.C i.toNat 2)=c (i+1)/\zyI (i+1) J))))))))))))))))))))))))) (aa (aN a_ (i+1)) (ax (n i) (n (i+1)) (e/\zyI x.t (zyI x.s (zyI x.v (zyI x.w (zyI x.o (zyI x.p (zyI x.d (zyI x.l (zyI x.h (zyI x.b (zyN q.nw (zyR q.nw (au q.C) (zyN q.ng (zyR q.ng (aR q.G) (zyI q.a (zyI q.fl (zyB q.nu (zyB q.de (zyI q.top (zyR 5 aA (zyN q.nw (zyR q.nw (au q.C) (M (gJ x (q.C i.toNat 0) 0=q.C i.toNat 2)=c (i+1)/\zyI (i+1) g)))))))))))))))))))))))))) (ah (p i) (aa (aN a_ (i+1)) (ax (n i) (n (i+1)) (e/\zyI x.t (zyI x.s (zyI x.v (zyI x.w (zyI x.o (zyI x.p (zyI x.d (zyI x.l (zyI x.h (zyI x.b (zyN q.nw (zyR q.nw (au q.C) (zyN q.ng (zyR q.ng (aR q.G) (zyI q.a (zyI q.fl (zyB q.nu (zyB q.de (zyI q.top (zyR 5 aA (zyN q.nw (zyR q.nw (au q.C) (false=c (i+1)/\zyI (i+1) J))))))))))))))))))))))))) m)))) (ah (M (q.C i.toNat 1=2)) (aa j (aa k (ah (c i) (ah (p i) (aa (aN a_ (i+1)) (ax (n i) (n (i+1)) (e/\zyI x.t (zyI x.s (zyI x.v (zyI x.w (zyI x.o (zyI x.p (zyI x.d (zyI x.l (zyI x.h (zyI x.b (zyN q.nw (zyR q.nw (au q.C) (zyN q.ng (zyR q.ng (aR q.G) (zyI q.a (zyI q.fl (zyB q.nu (zyB q.de (zyI q.top (zyR 5 aA (zyN q.nw (zyR q.nw (au q.C) (D=c (i+1)/\zyI (i+1) u))))))))))))))))))))))))) (aa (aN a_ (i+1)) (ax (n i) (n (i+1)) (e/\zyI x.t (zyI x.s (zyI x.v (zyI x.w (zyI x.o (zyI x.p (zyI x.d (zyI x.l (zyI x.h (zyI x.b (zyN q.nw (zyR q.nw (au q.C) (zyN q.ng (zyR q.ng (aR q.G) (zyI q.a (zyI q.fl (zyB q.nu (zyB q.de (zyI q.top (zyR 5 aA (zyN q.nw (zyR q.nw (au q.C) (D=c (i+1)/\zyI (i+1) g)))))))))))))))))))))))))) (ah (p i) (aa (aN a_ (i+1)) (ax (n i) (n (i+1)) (e/\zyI x.t (zyI x.s (zyI x.v (zyI x.w (zyI x.o (zyI x.p (zyI x.d (zyI x.l (zyI x.h (zyI x.b (zyN q.nw (zyR q.nw (au q.C) (zyN q.ng (zyR q.ng (aR q.G) (zyI q.a (zyI q.fl (zyB q.nu (zyB q.de (zyI q.top (zyR 5 aA (zyN q.nw (zyR q.nw (au q.C) (false=c (i+1)/\zyI (i+1) u))))))))))))))))))))))))) m)))) (ah (M (q.C i.toNat 1=3)) (aa j (aa k (ah (c i) (ah (p i) (aa (aN a_ (i+1)) (ax (n i) (n (i+1)) (e/\zyI x.t (zyI x.s (zyI x.v (zyI x.w (zyI x.o (zyI x.p (zyI x.d (zyI x.l (zyI x.h (zyI x.b (zyN q.nw (zyR q.nw (au q.C) (zyN q.ng (zyR q.ng (aR q.G) (zyI q.a (zyI q.fl (zyB q.nu (zyB q.de (zyI q.top (zyR 5 aA (zyN q.nw (zyR q.nw (au q.C) (M (gJ x (q.C i.toNat 0) 0<q.C i.toNat 2)=c (i+1)/\zyI (i+1) r))))))))))))))))))))))))) (aa (aN a_ (i+1)) (ax (n i) (n (i+1)) (e/\zyI x.t (zyI x.s (zyI x.v (zyI x.w (zyI x.o (zyI x.p (zyI x.d (zyI x.l (zyI x.h (zyI x.b (zyN q.nw (zyR q.nw (au q.C) (zyN q.ng (zyR q.ng (aR q.G) (zyI q.a (zyI q.fl (zyB q.nu (zyB q.de (zyI q.top (zyR 5 aA (zyN q.nw (zyR q.nw (au q.C) (M (gJ x (q.C i.toNat 0) 0<q.C i.toNat 2)=c (i+1)/\zyI (i+1) g)))))))))))))))))))))))))) (ah (p i) (aa (aN a_ (i+1)) (ax (n i) (n (i+1)) (e/\zyI x.t (zyI x.s (zyI x.v (zyI x.w (zyI x.o (zyI x.p (zyI x.d (zyI x.l (zyI x.h (zyI x.b (zyN q.nw (zyR q.nw (au q.C) (zyN q.ng (zyR q.ng (aR q.G) (zyI q.a (zyI q.fl (zyB q.nu (zyB q.de (zyI q.top (zyR 5 aA (zyN q.nw (zyR q.nw (au q.C) (false=c (i+1)/\zyI (i+1) r))))))))))))))))))))))))) m)))) (ah (M (q.C i.toNat 1=4)) (aa j (aa k (ah (c i) (ah (p i) (aa (aN a_ (i+1)) (ax (n i) (n (i+1)) (e/\zyI x.t (zyI x.s (zyI x.v (zyI x.w (zyI x.o (zyI x.p (zyI x.d (zyI x.l (zyI x.h (zyI x.b (zyN q.nw (zyR q.nw (au q.C) (zyN q.ng (zyR q.ng (aR q.G) (zyI q.a (zyI q.fl (zyB q.nu (zyB q.de (zyI q.top (zyR 5 aA (zyN q.nw (zyR q.nw (au q.C) (M (gJ x (q.C i.toNat 0) 0>=q.C i.toNat 2)=c (i+1)/\zyI (i+1) I))))))))))))))))))))))))) (aa (aN a_ (i+1)) (ax (n i) (n (i+1)) (e/\zyI x.t (zyI x.s (zyI x.v (zyI x.w (zyI x.o (zyI x.p (zyI x.d (zyI x.l (zyI x.h (zyI x.b (zyN q.nw (zyR q.nw (au q.C) (zyN q.ng (zyR q.ng (aR q.G) (zyI q.a (zyI q.fl (zyB q.nu (zyB q.de (zyI q.top (zyR 5 aA (zyN q.nw (zyR q.nw (au q.C) (M (gJ x (q.C i.toNat 0) 0>=q.C i.toNat 2)=c (i+1)/\zyI (i+1) g)))))))))))))))))))))))))) (ah (p i) (aa (aN a_ (i+1)) (ax (n i) (n (i+1)) (e/\zyI x.t (zyI x.s (zyI x.v (zyI x.w (zyI x.o (zyI x.p (zyI x.d (zyI x.l (zyI x.h (zyI x.b (zyN q.nw (zyR q.nw (au q.C) (zyN q.ng (zyR q.ng (aR q.G) (zyI q.a (zyI q.fl (zyB q.nu (zyB q.de (zyI q.top (zyR 5 aA (zyN q.nw (zyR q.nw (au q.C) (false=c (i+1)/\zyI (i+1) I))))))))))))))))))))))))) m)))) False))))) (ah (M (q.C i.toNat 1=1)) (aa (aN a_ (i+1)) (ax (n i) (n (i+1)) (e/\zyI x.t (zyI x.s (zyI x.v (zyI x.w (zyI x.o (zyI x.p (zyI x.d (zyI x.l (zyI x.h (zyI x.b (zyN q.nw (zyR q.nw (au q.C) (zyN q.ng (zyR q.ng (aR q.G) (zyI q.a (zyI q.fl (zyB q.nu (zyB q.de (zyI q.top (zyR 5 aA (zyN q.nw (zyR q.nw (au q.C) (c i=c (i+1)/\zyI (i+1) (aH B (lo (i+1)) (zyI (z q.nw) (p i=p (i+1)/\aH (if q.C i.toNat 2<hi i then q.C i.toNat 2 else hi i) (hi (i+1)) Q)))))))))))))))))))))))))))) (ah (M (q.C i.toNat 1=2)) (ah (gv (q.C i.toNat 2) (K i) (n i)) y (aa (aN a_ (i+1)) (ax (n i+1) (n (i+1)) ((∀(f),f<n i+1->dY (n i) (K i) (q.C i.toNat 2) f=K (i+1) f)/\zyI x.t H)))) (ah (M (q.C i.toNat 1=3)) (aa (aN a_ (q.C i.toNat 2-1)) (aa (aN a_ (i+1)) (ax (n i) (n (i+1)) (e/\zyI x.t (zyI x.s (zyI x.v (zyI x.w (zyI x.o (zyI x.p (zyI x.d (zyI x.l (zyI x.h (zyI x.b (zyN q.nw (zyR q.nw (au q.C) (zyN q.ng (zyR q.ng (aR q.G) (zyI q.a (zyI q.fl (zyB q.nu (zyB q.de (zyI q.top (zyR 5 aA (zyN q.nw (zyR q.nw (au q.C) (c i=c (i+1)/\zyI (i+1) (aH (lo i) (lo (i+1)) (zyI (z q.nw) (p i=p (i+1)/\aH (if q.C i.toNat 2-1<hi i then q.C i.toNat 2-1 else hi i) (hi (i+1)) Q))))))))))))))))))))))))))))) (ah (M (q.C i.toNat 1=4)) (aa (aN a_ (i+1)) (ax (n i) (n (i+1)) (e/\zyI x.t (zyI x.s (zyI x.v (zyI x.w (zyI x.o (zyI x.p (zyI x.d (zyI x.l (zyI x.h (zyI x.b (zyN q.nw (zyR q.nw (au q.C) (zyN q.ng (zyR q.ng (aR q.G) (zyI q.a (zyI q.fl (zyB q.nu (zyB q.de (zyI q.top (zyR 5 aA (zyN q.nw (zyR q.nw (au q.C) (c i=c (i+1)/\zyI (i+1) (aH B (lo (i+1)) (zyI (z q.nw) (p i=p (i+1)/\aH (hi i) (hi (i+1)) Q)))))))))))))))))))))))))))) y)))))) (ax (n i) N ((∀(f),f<n i->K i f=O f)/\zyI x.t (zyI x.s (zyI x.v (zyI x.w (zyI x.o (zyI x.p (zyI x.d (zyI x.l (zyI x.h (zyI x.b (zyR 5 aA (c i=cE/\aH (lo i) E (p i=L/\aH (hi i) F True)))))))))))))))):=U
def Uf(q)(x)(c p)(lo hi)(n)(K)(cE k)(f g)(m)(r)(left)(e)(Q):(ko [lQ,nL] [(7001,21,WT q x c p lo hi n K 0,WU x cE k f g m r),(24002,22,Fe x cE k f g m r left [],AN x cE k e)] 31 [.agg (aY q),.agg (eD x)] Q)=(aa (aI 3 q.nw (au q.C)&&aI 1 q.ng (aR q.G)) (aa (Hl {nw:=q.nw,C:=bG (au q.C),ng:=q.ng,G:=λj=>q.G j,a:=q.a,fl:=q.fl,nu:=q.nu,de:=q.de,top:=q.top}) (ah (!bB x) (eT.cells [e_ 5 2 aA] Access.ro=eT.cells [e_ 5 2 aA] Access.ro/\Q (j_ [f_ false,f_ false,h_ a_ 190])) (eu PP II false (aD II 31 7001) 21 (WT q x c p lo hi n K 0) (WU x cE k f g m r)/\ax 0 (n 0) (zyI x.t (zyI x.s (zyI x.v (zyI x.w (zyI x.o (zyI x.p (zyI x.d (zyI x.l (zyI x.h (zyI x.b (zyN q.nw (zyR q.nw (au q.C) (zyN q.ng (zyR q.ng (aR q.G) (zyI q.a (zyI q.fl (zyB q.nu (zyB q.de (zyI q.top (zyR 5 aA (zyN q.nw (zyR q.nw (au q.C) (true=c 0/\aH x.l (lo 0) (zyI (z q.nw) (true=p 0/\aH x.h (hi 0) (aa (aN a_ (g-f)) (aa (aN a_ (g-f+1)) (eu PP II false (aD II 31 24002) 22 (Fe x cE k f g m r left []) (AN x cE k e)/\zyN m (([]:List Nat)=[]/\zyN m ((∀(i),i<m->r i=r i)/\zyI x.t (zyI x.s (zyI x.v (zyI x.w (zyI x.o (zyI x.p (zyI x.d (zyI x.l (zyI x.h (zyI x.b (zyR 5 aA (aH (g-f+1) (left []) (cE=cE/\zyI f (k=k/\zyI g (ah cE (aa (aN a_ (x.h-x.l)) (aa (aN a_ (x.h-x.l+1)) (ah k (eT.cells [e_ 5 2 aA] Access.ro=eT.cells [e_ 5 2 aA] Access.ro/\Q (j_ [f_ (M (e=x.h-x.l+1)),f_ (M (e>0)),h_ a_ 0])) (eT.cells [e_ 5 2 aA] Access.ro=eT.cells [e_ 5 2 aA] Access.ro/\Q (j_ [f_ (M (e=x.h-x.l+1)),f_ false,h_ a_ 0]))))) (ah k (eT.cells [e_ 5 2 aA] Access.ro=eT.cells [e_ 5 2 aA] Access.ro/\Q (j_ [f_ false,f_ (M (e>0)),h_ a_ 0])) (eT.cells [e_ 5 2 aA] Access.ro=eT.cells [e_ 5 2 aA] Access.ro/\Q (j_ [f_ false,f_ false,h_ a_ 0]))))))))))))))))))))))))))))))))))))))))))))))))))):=U
def Nn(o v N:Int):Bool:=M ((o=1/\v=N)∨(o=2/\v≠N)∨(o=3/\v<N)∨(o=4/\N<=v))
structure QA (b:Query) (x:ay) (a:Nat) (c c':Bool) (lo lo' hi hi':Int) (n n':Nat) (K K':Nat->Int):Prop where
 mc:c'=(c&&(M (b.C a 0=8)||Nn (b.C a 1) (gJ x (b.C a 0) 0) (b.C a 2)))
 ml:lo'=if b.C a 0=8/\(b.C a 1=1∨b.C a 1=4)then(if b.C a 2>lo then b.C a 2 else lo)else lo
 mh:hi'=if b.C a 0=8/\b.C a 1=1 then(if b.C a 2<hi then b.C a 2 else hi)else if b.C a 0=8/\b.C a 1=3 then(if b.C a 2-1<hi then b.C a 2-1 else hi)else hi
 mn:n'=if b.C a 0=8/\b.C a 1=2/\gv (b.C a 2) K n=false then n+1 else n
 mK:K'=if b.C a 0=8/\b.C a 1=2/\gv (b.C a 2) K n=false then dY n K (b.C a 2)else K
def aZ:an 5 aA aA:=Zj λσ j=>by
 match j with
 |0=>exact⟨rfl,trivial,trivial⟩
 |1=>exact⟨rfl,⟨rfl,trivial,trivial⟩,trivial⟩
 |2=>exact⟨rfl,⟨rfl,trivial,trivial⟩,trivial⟩
 |3=>exact⟨rfl,⟨rfl,trivial,trivial⟩,trivial⟩
 |_+4=>exact⟨rfl,⟨rfl,trivial,trivial⟩,trivial⟩
def Ji(q)(x)(c)(lo hi)(n)(K)(cE)(E F)(U)(W)(i)(j:Nat)(H:i=(j:Int))(hn:q.nw<=6)(hj:j<q.nw)
  (h8:1<=q.C j 1/\q.C j 1<=4) (hN : -1<=q.C j 2/\q.C j 2<=4398046511104) (X:QA q x j (c i) (c (i+1)) (lo i) (lo (i+1)) (hi i) (hi (i+1)) (n i) (n (i+1)) (K i) (K (i+1))) (Q) (hQ:Q):
  kr [jr] [] 31 7001 21 (WT q x c c lo hi n K) (λ_=>WU x cE cE E F U W) (λi=>i+1) Q i:=by
 rw[CA]
 have e1:k_ i=j:=O
 have en:z q.nw=(q.nw:Int):=rfl
 rw[e1]
 obtain⟨mc,ml,mh,mn,mK⟩:=X
 have Z:(M (0<=i)&&M (i<z q.nw))=true:=by simp only[bf,bn];omega
 have I:aN a_ (i+1)=true:=aq O O
 have J:aN a_ (q.C j 2-1)=true:=aq O O
 have L:i<z q.nw:=O
 clear H e1
 generalize hA:q.C j 0=f at*
 generalize hO:q.C j 1=o at*
 generalize ad:q.C j 2=N at*
 generalize hV:gJ x f 0=V at*
 have fin:∀(R S:Bool)(u y:Int)(D:Nat)(T:Nat->Int),R=c (i+1)->S=c (i+1)->u=lo (i+1)->y=hi (i+1)->D=n (i+1)->T=K (i+1)->
   aa (aN a_ (i+1)) (ax D (n (i+1)) ((∀a:Nat,a<D->T a=K (i+1) a)/\aH x.t x.t (aH x.s x.s (aH x.v x.v (aH x.w x.w (aH x.o x.o (aH x.p x.p (aH x.d x.d (aH x.l x.l (aH x.h x.h (aH x.b x.b (ax q.nw q.nw (an q.nw (au q.C) (au q.C)/\ax q.ng q.ng (an q.ng (aR q.G) (aR q.G)/\aH q.a q.a (aH q.fl q.fl (bI q.nu q.nu (bI q.de q.de (aH q.top q.top (an 5 aA aA/\ax q.nw q.nw (an q.nw (au q.C) (au q.C)/\R=c (i+1)/\aH (i+1) (i+1) (aH u (lo (i+1)) (aH (z q.nw) (z q.nw) (S=c (i+1)/\aH y (hi (i+1)) Q))))))))))))))))))))))):=by
  intro R S u y D T a1 a2 a3 a4 a5 a6
  exact Ze I (YG a5 ⟨λa _=>by rw[a6],Zf A (Zf A (Zf A (Zf A (Zf A (Zf A (Zf A (Zf A (Zf A (Zf A (YG A ⟨bC _ _,YG A ⟨bO _ _,Zf A (Zf A (Zi A (Zi A (Zf A ⟨aZ,YG A ⟨bC _ _,a1,Zf A (Zf a3 (Zf A ⟨a2,Zf a4 hQ⟩))⟩⟩))))⟩⟩))))))))))⟩)
 refine Zg (λ_=>?_) λh=>absurd L h
 refine cC _ _ Z ?_
 refine Zl (λh=>?_) λh=>?_
 ·have m:∀{P:Prop},¬ (f=8/\P):=λe=>h e.1
  rw[if_neg m]at ml
  rw[if_neg m,if_neg m]at mh
  rw[if_neg m]at mn mK
  rw[nZ h,Bool.false_or]at mc
  have yes:∀b,Nn o V N=b->c i=true->b=c (i+1):=ZD
  have no:c i=false->false=c (i+1):=λe=>by rw[mc,e];rfl
  have r:∀(p:Prop) [Decidable p],((o=1/\V=N)∨(o=2/\V≠N)∨(o=3/\V<N)∨(o=4/\N<=V)↔p)->Nn o V N=decide p:=λp _ e=>decide_eq_decide.2 e
  refine Zg O λ_=>?_
  refine Zg (λe=>?_) λe1=>?_
  ·refine cC _ _ (bW A) (cC _ _ (bW A) ?_)
   have g:=r (V=N) O
   exact Zh (λd=>Zh (λ_=>fin _ _ _ _ _ _ (yes _ g d) (yes _ g d) ml.symm mh.symm mn.symm mK.symm) λB=>Y) λd=>Zh (λB=>Y) λ_=>fin _ _ _ _ _ _ (no d) (no d) ml.symm mh.symm mn.symm mK.symm
  refine Zg (λe=>?_) λe2=>?_
  ·refine cC _ _ (bW A) (cC _ _ (bW A) ?_)
   have g:Nn o V N=!decide (V=N):=by rw[r (¬ V=N) O,decide_not]
   exact Zh (λd=>Zh (λ_=>fin _ _ _ _ _ _ (yes _ g d) (yes _ g d) ml.symm mh.symm mn.symm mK.symm) λB=>Y) λd=>Zh (λB=>Y) λ_=>fin _ _ _ _ _ _ (no d) (no d) ml.symm mh.symm mn.symm mK.symm
  refine Zg (λe=>?_) λe3=>?_
  ·refine cC _ _ (bW A) (cC _ _ (bW A) ?_)
   have g:=r (V<N) O
   exact Zh (λd=>Zh (λ_=>fin _ _ _ _ _ _ (yes _ g d) (yes _ g d) ml.symm mh.symm mn.symm mK.symm) λB=>Y) λd=>Zh (λB=>Y) λ_=>fin _ _ _ _ _ _ (no d) (no d) ml.symm mh.symm mn.symm mK.symm
  refine Zg (λe=>?_) O
  ·refine cC _ _ (bW A) (cC _ _ (bW A) ?_)
   have g:=r (V>=N) O
   exact Zh (λd=>Zh (λ_=>fin _ _ _ _ _ _ (yes _ g d) (yes _ g d) ml.symm mh.symm mn.symm mK.symm) λB=>Y) λd=>Zh (λB=>Y) λ_=>fin _ _ _ _ _ _ (no d) (no d) ml.symm mh.symm mn.symm mK.symm
 ·have k:c i=c (i+1):=by rw[mc,bW h,Bool.true_or,Bool.and_true]
  refine Zg (λe=>?_) λe1=>?_
  ·rw[if_pos ⟨h,.inl e⟩]at ml
   rw[if_pos ⟨h,e⟩]at mh
   rw[if_neg O]at mn mK
   exact fin _ _ _ _ _ _ k k ml.symm mh.symm mn.symm mK.symm
  refine Zg (λe=>?_) λe2=>?_
  ·rw[if_neg O]at ml
   rw[if_neg O,if_neg O]at mh
   refine Zh (λd=>?_) λd=>?_
   ·rw[d]at mn mK
    rw[if_neg zA]at mn mK
    exact fin _ _ _ _ _ _ k k ml.symm mh.symm mn.symm mK.symm
   ·rw[if_pos ⟨h,e,d⟩]at mn mK
    exact fin _ _ _ _ _ _ k k ml.symm mh.symm mn.symm mK.symm
  refine Zg (λe=>?_) λe3=>?_
  ·rw[if_neg O]at ml
   rw[if_neg O,if_pos ⟨h,e⟩]at mh
   rw[if_neg O]at mn mK
   exact cC _ _ J (fin _ _ _ _ _ _ k k ml.symm mh.symm mn.symm mK.symm)
  refine Zg (λe=>?_) O
  ·rw[if_pos ⟨h,.inr e⟩]at ml
   rw[if_neg O,if_neg O]at mh
   rw[if_neg O]at mn mK
   exact fin _ _ _ _ _ _ k k ml.symm mh.symm mn.symm mK.symm
structure Ug where
 c:Bool
 lo:Int
 hi:Int
 n:Nat
 K:Nat->Int
def j9(q:Query)(x:ay)(j:Nat)(s:Ug):Ug where
 c:=s.c&&(M (q.C j 0=8)||Nn (q.C j 1) (gJ x (q.C j 0) 0) (q.C j 2))
 lo:=if q.C j 0=8/\(q.C j 1=1∨q.C j 1=4)then(if q.C j 2>s.lo then q.C j 2 else s.lo)else s.lo
 hi:=if q.C j 0=8/\q.C j 1=1 then(if q.C j 2<s.hi then q.C j 2 else s.hi)else if q.C j 0=8/\q.C j 1=3 then(if q.C j 2-1<s.hi then q.C j 2-1 else s.hi)else s.hi
 n:=if q.C j 0=8/\q.C j 1=2/\gv (q.C j 2) s.K s.n=false then s.n+1 else s.n
 K:=if q.C j 0=8/\q.C j 1=2/\gv (q.C j 2) s.K s.n=false then dY s.n s.K (q.C j 2)else s.K
def mf(q:Query)(x:ay):Nat->Ug
 |0=>⟨true,x.l,x.h,0,λ_=>0⟩
 |j+1=>j9 q x j (mf q x j)
def dC(q:Query)(x:ay):Ug:=mf q x q.nw
def rL(lo hi:Int)(K:Nat->Int)(S:List Nat):Nat:=(S.filter λj=>M (lo<=K j)&&M (K j<=hi)).length
def fy(s:Ug)(S:List Nat):Int:=s.hi-s.lo+1-rL s.lo s.hi s.K S
def lT(q:Query)(x:ay):Int:=fy (dC q x) (c_ (dC q x).n)
def jA(q:Query)(x:ay):Bool:=(dC q x).c&&M (lT q x=x.h-x.l+1)
def gk(q:Query)(x:ay):Bool:=(dC q x).c&&M (lT q x>0)
def fQ{q}(h:Hl q=true):q.nw<=6/\∀j,j<q.nw->(1<=q.C j 0/\q.C j 0<=8)/\(1<=q.C j 1/\q.C j 1<=4)/\(-1<=q.C j 2/\q.C j 2<=4398046511104):=by
 unfold Hl at h
 simp only[bf,bn]at h
 exact⟨h.1.1.1.1.1,λj a=>yO h.1.1.1.2 a⟩
def wG{q x}(hq:Hl q=true)(hl:0<=x.l/\x.l<=4398046511104)(a:0<=x.h/\x.h<=4398046511104):∀j,j<=q.nw->(-2<=(mf q x j).lo/\(mf q x j).lo<=4398046511104)/\(-2<=(mf q x j).hi/\(mf q x j).hi<=4398046511104)/\(mf q x j).n<=j
 |0,_=>⟨⟨by show -2<=x.l;omega,hl.2⟩,⟨by show -2<=x.h;omega,a.2⟩,dw _⟩
 |j+1,b=>by
  obtain⟨c,d,e⟩:=wG hq hl a j O
  obtain⟨_,_,k⟩:=(fQ hq).2 j O
  show(-2<=(j9 q x j (mf q x j)).lo/\(j9 q x j (mf q x j)).lo<=4398046511104)/\(-2<=(j9 q x j (mf q x j)).hi/\(j9 q x j (mf q x j)).hi<=4398046511104)/\(j9 q x j (mf q x j)).n<=j+1
  simp only[j9]
  grind
def mS(q:Query)(x:ay)(i:Int):St:=WT q x (λi=>(mf q x i.toNat).c) (λi=>(mf q x i.toNat).c) (λi=>(mf q x i.toNat).lo) (λi=>(mf q x i.toNat).hi) (λi=>(mf q x i.toNat).n) (λi=>(mf q x i.toNat).K) i
def mE(q:Query)(x:ay):GE:=WU x (dC q x).c (dC q x).c (dC q x).lo (dC q x).hi (dC q x).n (dC q x).K
def No(q)(x)(hq:Hl q=true):eu PP II false (aD II 31 7001) 21 (mS q x 0) (mE q x):=by
 obtain⟨hn,b⟩:=fQ hq
 have key:=eu.of (ι:=Nat) Hs [jr] (bm PP II []) 1000 (c:=aD II 31 7001) (ir:=false) 21 (λj=>j<=q.nw) (λj=>mS q x (j:Int)) (λ_=>mE q x) (λj=>q.nw-j) (λj=>j+1) 0 A (Nat.zero_le _) λj d=>?_
 ·exact key
 by_cases a:j<q.nw
 ·have e1:((j:Int)).toNat=j:=by omega
  have e:((j:Int)+1).toNat=j+1:=O
  have:=Ji q x (λi=>(mf q x i.toNat).c) (λi=>(mf q x i.toNat).lo) (λi=>(mf q x i.toNat).hi) (λi=>(mf q x i.toNat).n) (λi=>(mf q x i.toNat).K) (dC q x).c (dC q x).lo (dC q x).hi (dC q x).n (dC q x).K (j:Int) j A hn a (b j a).2.1 (b j a).2.2
   (by rw[e1,e];exact⟨rfl,rfl,rfl,rfl,rfl⟩) (j+1<=q.nw/\q.nw-(j+1)<q.nw-j/\(mE q x).pick=(mE q x).pick) Y
  exact this
 ·have d:j=q.nw:=by have:j<=q.nw:=d;omega
  have done:∀(i:Int)(Q:Prop),i=(q.nw:Int)->kr [jr] [] 31 7001 21 (mS q x) (λ_=>mE q x) (λi=>i+1) Q i:=λi Q f=>by
   have e1:i.toNat=q.nw:=O
   refine(CA q x _ _ _ _ _ _ _ _ _ _ _ _ i Q).mpr ?_
   have g:z q.nw=(q.nw:Int):=rfl
   refine Zg O λ_=>?_
   rw[e1]
   exact YG A ⟨λ_ _=>rfl,Zf A (Zf A (Zf A (Zf A (Zf A (Zf A (Zf A (Zf A (Zf A (Zf A ⟨aZ,rfl,Zf A ⟨rfl,Zf A trivial⟩⟩)))))))))⟩
  exact done (j:Int) _ O
def Uh:aD II 31 24002= .seq (.region (Uc (aD II 31 24002)) #[oper (aD II 31 24002) 0,oper (aD II 31 24002) 1] false) (Nl (aD II 31 24002)):=U
def Ui:(oper (aD II 31 24002) 0).op= .next (.tmp 97) false:=U
def Uj:(oper (aD II 31 24002) 0).guard=n_:=U
def Np(lo hi)(K)(S)(j):rL lo hi K (j::S)=rL lo hi K S+(if lo<=K j/\K j<=hi then 1 else 0):=by
 unfold rL
 grind
def UG:∀(n)(S:List Nat),S.Nodup->(∀j,j∈S->j<n)->S.length<=n
 |0,S,_,h=>by
  cases S with
  |nil=>exact dw _
  |cons a S=>exact absurd (h a List.mem_cons_self) (lZ _)
 |n+1,S,hn,h=>by
  by_cases hm:n∈S
  ·have:=UG n (S.erase n) (hn.erase n) Y
   grind
  ·have:=UG n S hn λj b=>by
    grind
   omega
def Jj(x)(c p)(s)(hn:s.n<=6)(m : -2<=s.lo/\s.lo<=4398046511104)(o : -2<=s.hi/\s.hi<=4398046511104):
  eu PP II false (aD II 31 24002) 22 (Fe x c p s.lo s.hi s.n s.K (fy s) []) (AN x c p (fy s (c_ s.n))):=by
 refine eu.walk Hs [] (bm PP II []) 1000 (ι:=List Nat) (ir:=false) Uh Ui Uj 22 (λS=>S.Nodup/\∀j,j∈S->j<s.n) (Fe x c p s.lo s.hi s.n s.K (fy s)) (λ_=>AN x c p (fy s (c_ s.n))) (λS=>s.n-S.length) (λS j=>j::S) [] 21 20 (λ_=>s.n) (λ_=>s.K) (λS=>S) A ⟨List.nodup_nil,λj h=>zE⟩ (λS _=>⟨rfl,rfl,rfl⟩) ?_ ?_
 ·intro S hS k
  refine(Qz x c p s.lo s.hi s.n s.K (fy s) (fy s (c_ s.n)) S).mpr ?_
  have q:S.Perm (c_ s.n):=Y
  have r:fy s S=fy s (c_ s.n):=by
   unfold fy rL
   rw[(q.filter _).length_eq]
  exact Zf A (Zf A (Zf A (Zf A (Zf A (Zf A (Zf A (Zf A (Zf A (Zf A ⟨aZ,Zf r Y⟩)))))))))
 ·intro S hS j t u
  have l:S.length<=s.n:=UG _ _ hS.1 hS.2
  have e:(j::S).length<=s.n:=UG _ _ Y ZD
  have v:rL s.lo s.hi s.K S<=S.length:=List.length_filter_le _ _
  have f:((j::S).Nodup/\∀a,a∈j::S->a<s.n)/\s.n-(j::S).length<s.n-S.length/\(AN x c p (fy s (c_ s.n))).pick=(AN x c p (fy s (c_ s.n))).pick :=
   Y
  refine(Ue x c p s.lo s.hi s.n s.K (fy s) (fy s (c_ s.n)) S j _).mpr ?_
  have w:(Nat.beq s.n s.n&&Nat.blt j s.n)=true:=by
   rw[ni,Bool.true_and]
   exact kV t
  have d:fy s (j::S)=fy s S-(if s.lo<=s.K j/\s.K j<=s.hi then 1 else 0):=by
   unfold fy
   rw[Np]
   split<;>omega
  refine cC _ _ w (Zg (λg=>Zg (λi=>?_) λi=>?_) λg=>?_)
  ·rw[if_pos ⟨g,i⟩]at d
   refine cC _ _ (aq (by unfold fy;omega) (by unfold fy;omega)) ?_
   exact YG A ⟨rfl,YG A ⟨λ_ _=>rfl,Zf A (Zf A (Zf A (Zf A (Zf A (Zf A (Zf A (Zf A (Zf A (Zf A ⟨aZ,Zf d.symm ⟨rfl,Zf A ⟨rfl,Zf A f⟩⟩⟩)))))))))⟩⟩
  ·rw[if_neg (λb=>i b.2),s_]at d
   exact YG A ⟨rfl,YG A ⟨λ_ _=>rfl,Zf A (Zf A (Zf A (Zf A (Zf A (Zf A (Zf A (Zf A (Zf A (Zf A ⟨aZ,Zf d.symm ⟨rfl,Zf A ⟨rfl,Zf A f⟩⟩⟩)))))))))⟩⟩
  ·rw[if_neg (λb=>g b.1),s_]at d
   exact YG A ⟨rfl,YG A ⟨λ_ _=>rfl,Zf A (Zf A (Zf A (Zf A (Zf A (Zf A (Zf A (Zf A (Zf A (Zf A ⟨aZ,Zf d.symm ⟨rfl,Zf A ⟨rfl,Zf A f⟩⟩⟩)))))))))⟩⟩
def AO(i):HO.get i=if i=0 then .cells [.ab 5 2 aA] .ro else .dead:=by
 show AH.get {n:=12,t:=b_ [(0,_)]} i=_
 simp only[AH.get,b_,Tr.bH,Tr.qV]
 grind
def CB{ks:List (aC PP II)}{T:lI}{f:FuncId}{args:List AV}{a':AV}(b:∀σ,l_ σ a' a')(h:ko ks T f args (λa=>a=a')):af PP II f args HO (.ret a' HO):=by
 obtain⟨o,c,d⟩:=fJ Hs ks (bm PP II T) 1000 f args HO _ _ h
 cases o with
 |ret a H1=>
  obtain⟨x,H2,k1,k2⟩:=lm RI.dJ _ _ _ _ c
  obtain⟨k0,k1⟩:=Zk k1
  have k1:H2.get 0= .cells [.ab 5 2 aA] .ro/\x=a':=k1
  obtain⟨g,k1⟩:=k1
  subst k1
  refine(d.vW k2).le (ky.of [] (im.of (by rfl) A A A k0 (gS.2 λl hl=>?_)) (b _))
  rw[AO]
  by_cases e:l=0
  ·subst e
   rw[if_pos A]
   have j:sig HO.n [] H2.n 0=0:=rfl
   have:=jX k0
   show if sig HO.n [] H2.n 0<H2.n then eT.le (sig HO.n [] H2.n) (H2.get (sig HO.n [] H2.n 0)) (eT.cells [.ab 5 2 aA] Access.ro)else _
   rw[j,if_pos O,g]
   exact⟨⟨⟨rfl,rfl,λi hi=>aZ i hi _⟩,trivial⟩,trivial⟩
  ·rw[if_neg e];trivial
 |qt a H1=>exact c.elim
def Uk{q x}(e:aI 3 q.nw (au q.C)=true)(f:aI 1 q.ng (aR q.G)=true)(hq:Hl q=true)(hx:bB x=true):
  af PP II 31 [.agg (aY q),.agg (eD x)] HO (.ret (.qP [.bool (jA q x),.bool (gk q x),.int a_ 0]) HO):=by
 have a:=hx
 unfold bB at a
 simp only[bf,bn]at a
 obtain⟨⟨⟨_,hl⟩,g⟩,_⟩:=a
 obtain⟨b,d,j⟩:=wG (x:=x) hq ⟨hl.1,O⟩ ⟨O,g⟩ q.nw (dw _)
 have hn:=(fQ hq).1
 have k:=No q x hq
 have m:=Jj x (dC q x).c (dC q x).c (dC q x) (Nat.le_trans j hn) b d
 refine CB (ks:=[lQ,nL]) (T:=[(7001,21,mS q x 0,mE q x),(24002,22,Fe x (dC q x).c (dC q x).c (dC q x).lo (dC q x).hi (dC q x).n (dC q x).K (fy (dC q x)) [],AN x (dC q x).c (dC q x).c (fy (dC q x) (c_ (dC q x).n)))]) (λσ=>⟨rfl,rfl,⟨rfl,rfl⟩,trivial⟩) ?_
 refine(Uf q x (λi=>(mf q x i.toNat).c) (λi=>(mf q x i.toNat).c) (λi=>(mf q x i.toNat).lo) (λi=>(mf q x i.toNat).hi) (λi=>(mf q x i.toNat).n) (λi=>(mf q x i.toNat).K) (dC q x).c (dC q x).c (dC q x).lo (dC q x).hi (dC q x).n (dC q x).K (fy (dC q x)) (fy (dC q x) (c_ (dC q x).n)) _).mpr ?_
 have b : -2<=(dC q x).lo/\(dC q x).lo<=4398046511104:=b
 have d : -2<=(dC q x).hi/\(dC q x).hi<=4398046511104:=d
 have o:fy (dC q x) []=(dC q x).hi-(dC q x).lo+1:=by
  unfold fy
  show _-((0:Nat):Int)=_
  omega
 refine cC _ _ (by rw[e,f];rfl) (cC _ _ zI ?_)
 rw[hx]
 refine⟨k,YG A (Zf A (Zf A (Zf A (Zf A (Zf A (Zf A (Zf A (Zf A (Zf A (Zf A (YG A ⟨bC _ _,YG A ⟨bO _ _,Zf A (Zf A (Zi A (Zi A (Zf A ⟨aZ,YG A ⟨bC _ _,rfl,Zf A (Zf A ⟨rfl,Zf A ?_⟩)⟩⟩))))⟩⟩)))))))))))⟩
 refine cC _ _ (aq O O) (cC _ _ (aq O O) ⟨m,YG A ⟨rfl,YG A ⟨λ_ _=>rfl,Zf A (Zf A (Zf A (Zf A (Zf A (Zf A (Zf A (Zf A (Zf A (Zf A ⟨aZ,Zf o.symm ⟨rfl,Zf A ⟨rfl,Zf A ?_⟩⟩⟩)))))))))⟩⟩⟩)
 unfold jA gk lT
 have r1:aN a_ (x.h-x.l)=true:=aq O O
 have p:aN a_ (x.h-x.l+1)=true:=aq O O
 cases r:(dC q x).c with
 |true=>exact cC _ _ r1 (cC _ _ p ⟨rfl,rfl⟩)
 |false=>exact⟨rfl,rfl⟩
def Rel.same{c ρ H H' w}(h:Rel c ρ H w)(hn:H'.n=H.n)(i:∀l,bp ρ w (ρ l) (H.get l)->bp ρ w (ρ l) (H'.get l))(j:∀l,(H'.get l).rw=(H.get l).rw)(d:∀l,H'.get l= .dead↔H.get l= .dead):Rel c ρ H' w where
 dF l:=i l (h.dF l)
 sep l f r N m b a h1 o:=(d f).2 (h.sep l f r N m b Y h1 o)
 gL l r N a h1:=h.gL l r N Y h1
 gH:=h.gH
 size:=h.size
 os:=h.os
 output:=h.output
 tape:=h.tape
 top l hl:=h.top l O
 fp:=h.fp
 hid l r N q h1:=h.hid l r N ZD h1
 env l hl:=by rw[hn];exact h.env l hl
 low l hl:=(d l).2 (h.low l O)
 qY:=h.qY
 pV l r N a h1:=h.pV l r N Y h1
 xw:=h.xw
 qZ:=h.qZ
def nS(cs:List AV)(i:Nat):Bool:=match i,cs with
 |0,[.str [],.aB]=>true
 |1,[.str [61],.fn 331 [] []]=>true
 |2,[.str [33,61],.fn 332 [] []]=>true
 |3,[.str [60],.fn 333 [] []]=>true
 |4,[.str [62,61],.fn 334 [] []]=>true
 |_,_=>false
def rM(b:eT):Bool:=match b with
 | .cells [.ab 5 2 f] .ro=>nS (f 0) 0&&nS (f 1) 1&&nS (f 2) 2&&nS (f 3) 3&&nS (f 4) 4
 |_=>false
def lB{cs i}(h:nS cs i=true):cs=aA i:=by
 unfold nS at h
 split at h<;>first|rfl|cases h
def wH{b}(h:rM b=true):∃f,b= .cells [.ab 5 2 f] .ro/\∀i,i<5->f i=aA i:=by
 unfold rM at h
 split at h
 ·rename_i f
  simp only[bf]at h
  obtain⟨⟨⟨⟨a,c⟩,d⟩,e⟩,g⟩:=h
  refine⟨f,rfl,λi hi=>?_⟩
  match i,hi with
  |0,_=>exact lB a
  |1,_=>exact lB c
  |2,_=>exact lB d
  |3,_=>exact lB e
  |4,_=>exact lB g
  |i+5,h=>omega
 ·cases h
def Ul{f g}(h:∀i,i<5->f i=aA i)(k:∀i,i<5->g i=aA i){ρ w o}(a:bp ρ w o (.cells [.ab 5 2 f] .ro)):bp ρ w o (.cells [.ab 5 2 g] .ro):=by
 have:eT.le (λl=>l) (.cells [.ab 5 2 f] .ro) (.cells [.ab 5 2 g] .ro):=by
  refine⟨⟨⟨rfl,rfl,λi hi=>?_⟩,trivial⟩,trivial⟩
  rw[h i hi,k i hi]
  exact aZ i hi _
 exact bp.le this a
def af.CC{f:FuncId}{args:List AV}{a:AV}{H:AH}(h:af PP II f args HO (.ret a HO))(D:rM (H.get 0)=true)(d:∀σ,bt.bD σ args=args)(ha:∀σ,a.bD σ=a):af PP II f args H (.ret a H):=by
 obtain⟨g,j,y⟩:=wH D
 have o:af PP II f args (H.set 0 (.cells [.ab 5 2 aA] .ro)) (.ret a (H.set 0 (.cells [.ab 5 2 aA] .ro))):=by
  refine af.SE (I:=II) (H0:=HO) h A (λi hi=>?_) (λi hi B=>?_) d ha
  ·have hi:12<=i:=hi
   rw[AO,if_neg O]
  ·by_cases e:i=0
   ·subst e
    rw[d_,AO,if_pos A]
    exact⟨rfl,λσ=>rfl⟩
   ·rw[AO,if_neg e]at B;exact absurd A B
 have q:∀c ρ w,Rel c ρ H w->Rel c ρ (H.set 0 (.cells [.ab 5 2 aA] .ro)) w:=λc ρ w m=>by
  refine m.same A (λl hl=>?_) (λl=>?_) λl=>?_
  ·by_cases e:l=0
   ·subst e
    rw[d_]
    rw[j]at hl
    exact Ul y (λ_ _=>rfl) hl
   ·rw[q_ _ _ (λb=>e b.symm)];exact hl
  ·by_cases e:l=0
   ·subst e;rw[d_,j];rfl
   ·rw[q_ _ _ (λb=>e b.symm)]
  ·by_cases e:l=0
   ·subst e;rw[d_,j];simp
   ·rw[q_ _ _ (λb=>e b.symm)]
 have back:∀c ρ w,Rel c ρ (H.set 0 (.cells [.ab 5 2 aA] .ro)) w->Rel c ρ H w:=λc ρ w m=>by
  refine m.same A (λl hl=>?_) (λl=>?_) λl=>?_
  ·by_cases e:l=0
   ·subst e
    rw[d_]at hl
    rw[j]
    exact Ul (λ_ _=>rfl) y hl
   ·rw[q_ _ _ (λb=>e b.symm)]at hl;exact hl
  ·by_cases e:l=0
   ·subst e;rw[d_,j];rfl
   ·rw[q_ _ _ (λb=>e b.symm)]
  ·by_cases e:l=0
   ·subst e;rw[d_,j];simp
   ·rw[q_ _ _ (λb=>e b.symm)]
 intro c ρ w vs hG E m
 have post:∀e w',(CO.ret a (H.set 0 (.cells [.ab 5 2 aA] .ro))).post c ρ e w'->(CO.ret a H).post c ρ e w':=by
  intro e w' s
  cases e with
  |returned v=>
   obtain⟨ρ',hx,t,u⟩:=s
   exact⟨ρ',hx,back _ _ _ t,u⟩
  |panicked F=>exact s.elim
  |outgrown=>exact s.elim
 rcases o c ρ w vs hG E (q _ _ _ m)with⟨o,C⟩|⟨v,w',o,C⟩
 ·exact .inl ⟨o,C.mono post⟩
 grind
def WV:aC PP II where
 f:=31
 spec X args H i _:=jK X 100000 args H λb H'=>X.bq (rM (H'.get 0)) (match b with
  |[.agg [.ab nw 3 f,.ab ng 1 g,.int a_ a,.int a_ fl,.str nu,.str de,.int a_ top],.agg cs]=>X.bq (aI 3 nw f&&aI 1 ng g) (X.bq (Hl ⟨nw,bG f,ng,λj=>bV (g j) 0,a,fl,nu,de,top⟩) (match OQ cs with
   |some x=>X.bq (bB x) (i (.qP [.bool (jA ⟨nw,bG f,ng,λj=>bV (g j) 0,a,fl,nu,de,top⟩ x),.bool (gk ⟨nw,bG f,ng,λj=>bV (g j) 0,a,fl,nu,de,top⟩ x),.int a_ 0]) H')
   |none=>X.fail))
  |_=>X.fail)
 ok X sem hX args H i kp h:=by
  obtain⟨b,H',c,k⟩:=gC hX _ _ _ _ h
  obtain⟨l,c⟩:=hX.bq _ _ c
  split at c
  ·rename_i nw f ng g a fl nu de top cs k
   obtain⟨k1,k2⟩:=hX.bq _ _ c
   obtain⟨m,d⟩:=hX.bq _ _ k2
   split at d
   ·rename_i x hx
    obtain⟨n,o⟩:=hX.bq _ _ d
    have e:=fK hx
    subst e
    simp only[bf]at k1
    have p:=(Uk (q:=⟨nw,bG f,ng,λj=>bV (g j) 0,a,fl,nu,de,top⟩) (x:=x) (s8 k1.1) (yP k1.2) m n).dq (args:=[.agg [.ab nw 3 f,.ab ng 1 g,.int a_ a,.int a_ fl,.str nu,.str de,.int a_ top],.agg (eD x)]) ⟨nQ k1.1 k1.2,⟨⟨rfl,rfl⟩,⟨rfl,rfl⟩,⟨rfl,rfl⟩,⟨rfl,rfl⟩,⟨rfl,rfl⟩,⟨rfl,rfl⟩,⟨rfl,rfl⟩,⟨rfl,rfl⟩,⟨rfl,rfl⟩,⟨rfl,rfl⟩,trivial⟩,trivial⟩
    exact⟨.ret _ H',o,(p.CC l (λ_=>rfl) λ_=>rfl).nI k⟩
   ·exact absurd d hX.fail
  ·exact absurd c hX.fail
def CE(q:Query)(x:ay)(d:Int)(i:Int):St:={t:=b_ [(0,.ab q.nw 3 (au q.C)),(1,.fn 152 [] [.ptr 13 0 0 0,.ptr 14 0 0 0]),(7,.int a_ (z q.nw)),(8,.int a_ i)],nt:=19,H:={n:=15,t:=b_ [(0,.cells [.ab 5 2 aA] .ro),(13,.cells (eD x) (.ty 48)),(14,.cells [.int a_ d] (.ty 3))]},df:=[]}
def WY:AH:={n:=15,t:=b_ [(0,.cells [.ab 5 2 aA] .ro)]}
def xT(b:Bool)(a:Int):GE:=.cond b (.one (.r {t:=b_ [(4,.int a_ a)],nt:=19,H:=WY,df:=[]})) (.one (.x 0 {t:=.e,nt:=19,H:=WY,df:=[]}))
def wJ(q)(x)(d)(b)(g)(i)(Q){e}(j:e=(aa (aN a_ (i+1)) (zyI d (zyI x.t (zyI x.s (zyI x.v (zyI x.w (zyI x.o (zyI x.p (zyI x.d (zyI x.l (zyI x.h (zyI x.b (zyR 5 aA (zyI (z q.nw) (zyN q.nw (zyR q.nw (au q.C) (zyI (i+1) Q)))))))))))))))))){a}(k:a=(M (q.C i.toNat 1=q.C i.toNat 1))){c}(m:c=(M (q.C i.toNat 2=q.C i.toNat 2))){f}(n:f=(ah b (zyR 5 aA (aH i g True)) False)):(kr [jr] [] 129 2001 15 (CE q x d) (λ_=>xT b g) (λi=>i+1) Q i)=(ah (M (i<z q.nw)) (aa (M (0<=i)&&M (i<z q.nw)) (ah (M (q.C i.toNat 1=0)) (aa a (aa c False)) (ah (M (q.C i.toNat 1=1)) (aa a (aa c (ah (!decide (gJ x (q.C i.toNat 0) d=q.C i.toNat 2)) f e))) (ah (M (q.C i.toNat 1=2)) (aa a (aa c (ah (!!decide (gJ x (q.C i.toNat 0) d=q.C i.toNat 2)) f e))) (ah (M (q.C i.toNat 1=3)) (aa a (aa c (ah (!decide (gJ x (q.C i.toNat 0) d<q.C i.toNat 2)) f e))) (ah (M (q.C i.toNat 1=4)) (aa a (aa c (ah (!decide (gJ x (q.C i.toNat 0) d>=q.C i.toNat 2)) f e))) False)))))) (ah b False (zyR 5 aA True))):=by subst_vars;kernel_rfl
def Nt(q)(x)(d)(b)(a)(Q):(ko [jr] [(2001,15,CE q x d 0,xT b a)] 103 [.agg (aY q),.agg (eD x),.int a_ d] Q)=(eu PP II false (aD II 129 2001) 15 (CE q x d 0) (xT b a)/\zyI d (zyI x.t (zyI x.s (zyI x.v (zyI x.w (zyI x.o (zyI x.p (zyI x.d (zyI x.l (zyI x.h (zyI x.b (zyR 5 aA (zyI (z q.nw) (zyN q.nw (zyR q.nw (au q.C) (ah b (eT.cells [e_ 5 2 aA] Access.ro=eT.cells [e_ 5 2 aA] Access.ro/\Q (f_ !decide (a>=0))) (eT.cells [e_ 5 2 aA] Access.ro=eT.cells [e_ 5 2 aA] Access.ro/\Q (f_ true)))))))))))))))))):=U
def gG(q:Query)(x:ay)(d:Int)(j:Nat):Bool:=Nn (q.C j 1) (gJ x (q.C j 0) d) (q.C j 2)
def dV(q:Query)(x:ay)(d:Int):Bool:=(c_ q.nw).all (gG q x d)
def xU(q:Query)(x:ay)(d:Int):Int:=match(c_ q.nw).find? λj=>!gG q x d j with|some j=>(j:Int)|none=>0
def Fh{p n j}(a:j<n)(b:∀k,k<j->p k=false)(c:p j=true):(c_ n).find? p=o_ j:=by
 simp_all
def CF(q)(x)(d)(b)(a)(i)(j:Nat)(n:i=(j:Int))(hn:q.nw<=6)(s:j<q.nw)(t:1<=q.C j 1/\q.C j 1<=4)(Q)
  (hQ:gG q x d j=true->Q) (f:gG q x d j=false->b=true/\i=a):kr [jr] [] 129 2001 15 (CE q x d) (λ_=>xT b a) (λi=>i+1) Q i:=by
 rw[wJ _ _ _ _ _ _ _ A A A A]
 have e1:k_ i=j:=O
 have u:z q.nw=(q.nw:Int):=rfl
 rw[e1]
 unfold gG Nn at hQ f
 generalize q.C j 1=o at*
 generalize q.C j 2=N at*
 generalize gJ x (q.C j 0) d=v at*
 have c:aN a_ (i+1)=true:=aq O O
 have r:(M (0<=i)&&M (i<z q.nw))=true:=by simp only[bf,bn];omega
 have e:∀(p:Bool),(p=true->M ((o=1/\v=N)∨(o=2/\v≠N)∨(o=3/\v<N)∨(o=4/\N<=v))=false)->p=true->ah b (an 5 aA aA/\aH i a True) False:=λp g k=>by
  obtain⟨l,m⟩:=f (g k)
  rw[l]
  exact⟨aZ,Zf m trivial⟩
 refine Zg (λ_=>?_) O
 refine cC _ _ r ?_
 refine Zg O λ_=>?_
 refine Zg (λg=>?_) λg1=>Zg (λk=>?_) λg2=>Zg (λl=>?_) λg3=>Zg (λm=>?_) λg4=>O
 all_goals
  refine cC _ _ (bW A) (cC _ _ (bW A) (Zh (λh=>e _ (λh=>?_) h) λh=>cC _ _ c ?_))
 grind
 ·have:=hQ (by simp only[g_,bn]at h⊢;omega)
  exact zW
 grind
 ·have:=hQ (by simp only[Bool.not_eq_true',g_,bn,iK]at h⊢;omega)
  exact zW
 grind
 ·have:=hQ (by simp only[g_,bn]at h⊢;omega)
  exact zW
 grind
 ·have:=hQ (by simp only[g_,bn]at h⊢;omega)
  exact zW
def Fi(q)(x)(d)(hq:Hl q=true):eu PP II false (aD II 129 2001) 15 (CE q x d 0) (xT (!dV q x d) (xU q x d)):=by
 obtain⟨hn,e⟩:=fQ hq
 have key:=eu.of (ι:=Nat) Hs [jr] (bm PP II []) 1000 (c:=aD II 129 2001) (ir:=false) 15 (λj=>j<=q.nw/\∀k,k<j->gG q x d k=true) (λj=>CE q x d (j:Int)) (λ_=>xT (!dV q x d) (xU q x d)) (λj=>q.nw-j) (λj=>j+1) 0 A ⟨Nat.zero_le _,O⟩ λj b=>?_
 ·exact key
 obtain⟨g,l⟩:=b
 by_cases a:j<q.nw
 ·refine CF q x d (!dV q x d) (xU q x d) (j:Int) j A hn a (e j a).2.1 ((j+1<=q.nw/\∀k,k<j+1->gG q x d k=true)/\q.nw-(j+1)<q.nw-j/\(xT (!dV q x d) (xU q x d)).pick=(xT (!dV q x d) (xU q x d)).pick) (λh=>⟨⟨a,λk m=>?_⟩,O,rfl⟩) λh=>⟨?_,?_⟩
  grind
  ·have:dV q x d=false:=by
    unfold dV
    rw[List.all_eq_false]
    exact Y
   rw[this];rfl
  ·unfold xU
   rw[Fh a ZD (by rw[h];rfl)]
 ·have b:j=q.nw:=by omega
  have ht:dV q x d=true:=by
   unfold dV
   rw[List.all_eq_true]
   exact ZD
  rw[ht]
  have done:∀(i:Int)(Q:Prop),i=(q.nw:Int)->kr [jr] [] 129 2001 15 (CE q x d) (λ_=>xT (!true) (xU q x d)) (λi=>i+1) Q i:=λi Q f=>by
   rw[wJ _ _ _ _ _ _ _ A A A A]
   have n:z q.nw=(q.nw:Int):=rfl
   refine Zg O λ_=>?_
   exact⟨aZ,trivial⟩
  exact done (j:Int) _ O
def CG{q x d}(hq:Hl q=true):af PP II 103 [.agg (aY q),.agg (eD x),.int a_ d] HO (.ret (.bool (dV q x d)) HO):=by
 refine CB (ks:=[jr]) (T:=[(2001,15,CE q x d 0,xT (!dV q x d) (xU q x d))]) (λσ=>rfl) ?_
 rw[Nt]
 refine⟨Fi q x d hq,?_⟩
 have a:xU q x d>=0:=by
  unfold xU
  split<;>omega
 repeat' (first|exact aZ|exact bC _ _|refine Zf A ?_|refine YG A ?_|refine And.intro ?_ ?_)
 cases dV q x d with
 |true=>exact⟨rfl,rfl⟩
 |false=>exact⟨rfl,by rw[bW a];rfl⟩
def yU:aC PP II where
 f:=103
 spec X args H k _:=jK X 100000 args H λb H'=>X.bq (rM (H'.get 0)) (match b with
  |[.agg [.ab nw 3 f,.ab ng 1 g,.int a_ a,.int a_ fl,.str nu,.str de,.int a_ top],.agg cs,.int a_ d]=>X.bq (aI 3 nw f&&aI 1 ng g) (X.bq (Hl ⟨nw,bG f,ng,λj=>bV (g j) 0,a,fl,nu,de,top⟩) (match OQ cs with
   |some x=>k (.bool (dV ⟨nw,bG f,ng,λj=>bV (g j) 0,a,fl,nu,de,top⟩ x d)) H'
   |none=>X.fail))
  |_=>X.fail)
 ok X sem hX args H k kp h:=by
  obtain⟨b,H',c,l⟩:=gC hX _ _ _ _ h
  obtain⟨m,c⟩:=hX.bq _ _ c
  split at c
  ·rename_i nw f ng g a fl nu de top cs d l
   obtain⟨k1,k2⟩:=hX.bq _ _ c
   obtain⟨n,i⟩:=hX.bq _ _ k2
   split at i
   ·rename_i x hx
    have e:=fK hx
    subst e
    simp only[bf]at k1
    have o:=(CG (q:=⟨nw,bG f,ng,λj=>bV (g j) 0,a,fl,nu,de,top⟩) (x:=x) (d:=d) n).dq (args:=[.agg [.ab nw 3 f,.ab ng 1 g,.int a_ a,.int a_ fl,.str nu,.str de,.int a_ top],.agg (eD x),.int a_ d]) ⟨nQ k1.1 k1.2,⟨⟨rfl,rfl⟩,⟨rfl,rfl⟩,⟨rfl,rfl⟩,⟨rfl,rfl⟩,⟨rfl,rfl⟩,⟨rfl,rfl⟩,⟨rfl,rfl⟩,⟨rfl,rfl⟩,⟨rfl,rfl⟩,⟨rfl,rfl⟩,trivial⟩,⟨rfl,rfl⟩,trivial⟩
    exact⟨.ret _ H',i,(o.CC m (λ_=>rfl) λ_=>rfl).nI l⟩
   ·exact absurd i hX.fail
  ·exact absurd c hX.fail
def CH(q)(x)(d)(Q){b}(f:b=(eT.cells [e_ 5 2 aA] Access.ro=eT.cells [e_ 5 2 aA] Access.ro/\Q (j_ [f_ false,h_ a_ 190]))){c}(g:c=(Hl {nw:=q.nw,C:=bG (au q.C),ng:=q.ng,G:=λj=>q.G j,a:=q.a,fl:=q.fl,nu:=q.nu,de:=q.de,top:=q.top})){e}(i:e=(aI 3 q.nw (au q.C)&&aI 1 q.ng (aR q.G))):(ko [lQ,nL,yU] [] 43 [.agg (aY q),.agg (eD x),.int a_ d] Q)=(aa e (aa c (ah (!bB x) b (ah (M (d>=x.l)) (ah (!decide (d<=x.h)) b (aa e (aa c (eT.cells [e_ 5 2 aA] Access.ro=eT.cells [e_ 5 2 aA] Access.ro/\Q (j_ [f_ (dV {nw:=q.nw,C:=bG (au q.C),ng:=q.ng,G:=λj=>q.G j,a:=q.a,fl:=q.fl,nu:=q.nu,de:=q.de,top:=q.top} x d),h_ a_ 0]))))) b)))):=by subst_vars;kernel_rfl
def toQ:List AV->Option Query
 |[.ab nw 3 f,.ab ng 1 g,.int a_ a,.int a_ fl,.str nu,.str de,.int a_ top]=>o_ ⟨nw,bG f,ng,λj=>bV (g j) 0,a,fl,nu,de,top⟩
 |_=>n_
def oA:List AV->Bool
 |[.ab nw 3 f,.ab ng 1 g,.int a_ _,.int a_ _,.str _,.str _,.int a_ _]=>aI 3 nw f&&aI 1 ng g
 |_=>false
def toQ_le{cs q}(h:toQ cs=o_ q)(k:oA cs=true):l_ (λl=>l) (.agg cs) (.agg (aY q)):=by
 unfold toQ at h
 split at h
 ·cases h
  simp only[oA,bf]at k
  exact nQ k.1 k.2
 ·cases h
def uY(x):l_ (λl=>l) (.agg (eD x)) (.agg (eD x)):=⟨⟨rfl,rfl⟩,⟨rfl,rfl⟩,⟨rfl,rfl⟩,⟨rfl,rfl⟩,⟨rfl,rfl⟩,⟨rfl,rfl⟩,⟨rfl,rfl⟩,⟨rfl,rfl⟩,⟨rfl,rfl⟩,⟨rfl,rfl⟩,trivial⟩
def xG(x:ay)(d:Int):Bool:=M (d>=x.l)&&M (d<=x.h)
def tZ{q x d}(b:aI 3 q.nw (au q.C)=true)(c:aI 1 q.ng (aR q.G)=true)(hq:Hl q=true)(hx:bB x=true):
  af PP II 43 [.agg (aY q),.agg (eD x),.int a_ d] HO (.ret (.qP [.bool (xG x d&&dV q x d),.int a_ (match xG x d with|true=>0|false=>190)]) HO):=by
 refine CB (ks:=[lQ,nL,yU]) (T:=[]) (λσ=>⟨rfl,⟨rfl,rfl⟩,trivial⟩) ?_
 rw[CH _ _ _ _ A A A,b,c,show Hl _=true from(oH q).trans hq,hx]
 refine cC _ _ A (cC _ _ A ?_)
 show ah (M (d>=x.l)) _ _
 refine Zh (λh=>Zh (λa=>?_) λa=>?_) λh=>?_
 ·have a:M (d<=x.h)=false:=by simpa using a
  unfold xG;grind
 ·have a:M (d<=x.h)=true:=by simpa using a
  unfold xG;rw[h,a]
  exact cC _ _ A (cC _ _ A ⟨rfl,rfl⟩)
 ·unfold xG;grind
def af.nT{P I f x y a b d i H o}(h:af P I f [b,d,i] H o)(k1:l_ (λl=>l) x b)(k2:l_ (λl=>l) y d)(j:l_ (λl=>l) a i):af P I f [x,y,a] H o :=
 λc ρ w vs hG m q=>h c ρ w vs hG (aU.tQ (show bt.le _ [x,y,a] [b,d,i]from⟨k1,k2,j,trivial⟩) m) q
def af.dA{P I f x y a b H o}(h:af P I f [a,b] H o)(k1:l_ (λl=>l) x a)(k2:l_ (λl=>l) y b):af P I f [x,y] H o :=
 λc ρ w vs hG d i=>h c ρ w vs hG (aU.tQ (show bt.le _ [x,y] [a,b]from⟨k1,k2,trivial⟩) d) i
def Xn{cs q}(h:toQ cs=o_ q)(k:oA cs=true):aI 3 q.nw (au q.C)=true/\aI 1 q.ng (aR q.G)=true:=by
 unfold toQ at h
 split at h
 ·cases h
  simp only[oA,bf]at k
  exact⟨s8 k.1,yP k.2⟩
 ·cases h
def aC.CC(f:FuncId)(spec:{R:Type}->RI R->List AV->(AV->R)->R)
  (ok:∀{R:Type}(X:RI R)(sem:R->Prop),X.Ok sem->∀args c,sem (spec X args c)->∃a,sem (c a)/\(∀σ,a.bD σ=a)/\(∀σ,bt.bD σ args=args)/\af PP II f args HO (.ret a HO)):aC PP II where
 f:=f
 spec X args H c _:=jK X 100000 args H λb H'=>X.bq (rM (H'.get 0)) (spec X b λa=>c a H')
 ok X sem hX args H c kp h:=by
  obtain⟨b,H',d,i⟩:=gC hX _ _ _ _ h
  obtain⟨j,d⟩:=hX.bq _ _ d
  obtain⟨a,k1,k2,l,m⟩:=ok X sem hX _ _ d
  exact⟨.ret a H',k1,(m.CC j l k2).nI i⟩
def nU{cs q}(h:toQ cs=o_ q)(σ):AV.bD σ (.agg cs)= .agg cs:=by
 unfold toQ at h
 split at h
 ·rfl
 ·cases h
def mg:aC PP II:=aC.CC 43
 (λX args b=>match args with
  |[.agg cs,.agg ds,.int a_ d]=>match toQ cs,OQ ds with
   |some q,o_ x=>X.bq (oA cs&&Hl q&&bB x) (b (.qP [.bool (xG x d&&dV q x d),.int a_ (match xG x d with|true=>0|false=>190)]))
   |_,_=>X.fail
  |_=>X.fail)
 λX sem hX args b h=>by
  split at h
  ·split at h
   ·rename_i q x hq hx
    obtain⟨a,c⟩:=hX.bq _ _ h
    simp only[bf]at a
    cases fK hx
    obtain⟨r1,e⟩:=Xn hq a.1.1
    refine⟨_,c,λ_=>rfl,λσ=>?_,af.nT (tZ r1 e a.1.2 a.2) (toQ_le hq a.1.1) (uY x) ⟨rfl,rfl⟩⟩
    show [AV.bD σ (.agg _),_,_]=_
    rw[nU hq];rfl
   ·exact zR
  ·exact zR
def CI(q:Query)(x:ay)(K:Nat->Int)(i:Int):St:={t:=b_ [(3,.ptr 13 0 0 0),(6,.own 14 i.toNat 1),(18,.ab q.ng 1 (aR q.G)),(19,.int a_ (z q.ng)),(20,.int a_ i)],nt:=32,H:={n:=15,t:=b_ [(0,.cells [.ab 5 2 aA] .ro),(13,.cells (eD x) (.ty 48)),(14,.rows i.toNat 1 (ae K) (.ty 3))]},df:=[]}
def xV(n:Nat)(K:Nat->Int):GE:=.one (.x 0 {t:=b_ [(6,.own 14 n 1)],nt:=32,H:={n:=15,t:=b_ [(0,.cells [.ab 5 2 aA] .ro),(14,.rows n 1 (ae K) (.ty 3))]},df:=[]})
def CJ(q)(x)(K)(i)(Q):(kr [jr] [] 30 5001 14 (CI q x K) (λ_=>xV q.ng K) (λi=>i+1) Q i)=(ah (M (i<z q.ng)) (aa (M (0<=i)&&M (i<z q.ng)) (aa (M (i.toNat<=i.toNat)&&true&&true&&M ((i.toNat+1)*8<=140737488355328)&&true) (aa (aN a_ (i+1)) (ax (i.toNat+1) (k_ (i+1)) (an (i.toNat+1) (λa=>bif Nat.blt a i.toNat then ae K a else List.take 1 (List.drop (0+(a-i.toNat)*1) [h_ a_ (gJ x (q.G i.toNat) 0)])) (ae K)/\zyI x.t (zyI x.s (zyI x.v (zyI x.w (zyI x.o (zyI x.p (zyI x.d (zyI x.l (zyI x.h (zyI x.b (zyR 5 aA (zyI (z q.ng) (zyI (i+1) (zyN q.ng (zyR q.ng (aR q.G) (ax (i.toNat+1) (k_ (i+1)) Q)))))))))))))))))))) (ax i.toNat q.ng (zyR i.toNat (ae K) (zyR 5 aA (ax i.toNat q.ng True))))):=U
def Um(q)(x)(K)(Q):(ko [lQ,nL] [(5001,14,CI q x K 0,xV q.ng K)] 30 [.agg (aY q),.agg (eD x)] Q)=(aa (aI 3 q.nw (au q.C)&&aI 1 q.ng (aR q.G)) (aa (Hl {nw:=q.nw,C:=bG (au q.C),ng:=q.ng,G:=λj=>q.G j,a:=q.a,fl:=q.fl,nu:=q.nu,de:=q.de,top:=q.top}) (ah (!bB x) (eT.cells [e_ 5 2 aA] Access.ro=eT.cells [e_ 5 2 aA] Access.ro/\Q (j_ [AV.aw,h_ a_ 190])) (eu PP II false (aD II 30 5001) 14 (CI q x K 0) (xV q.ng K)/\zyI x.t (zyI x.s (zyI x.v (zyI x.w (zyI x.o (zyI x.p (zyI x.d (zyI x.l (zyI x.h (zyI x.b (zyR 5 aA (zyI (z q.ng) (zyN q.ng (zyR q.ng (aR q.G) (aa ((List.all (List.range.loop q.ng []) λi=>true)&&M (q.ng<=q.ng)) (eT.cells [e_ 5 2 aA] Access.ro=eT.cells [e_ 5 2 aA] Access.ro/\Q (j_ [e_ q.ng 1 (ae K),h_ a_ 0])))))))))))))))))))):=U
end
end Go.Sx
