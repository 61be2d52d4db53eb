/- The proof of a statement of the seat, part 29. -/
import Derived.Test.YtoijalagmmgkbaaGreatDoorX15
import Derived.Test.YtoijalagmmgkbaaGreatDoorX08
import Derived.Test.YtoijalagmmgkbaaGreatDoorX28
set_option linter.all false
set_option linter.defProp false
set_option maxRecDepth 1000000
namespace Go.Sx
open Go
open Decidable renaming decide->B
open Go.IntKind renaming i64->z
open Int renaming ofNat->a_,sub_zero->n_
open List renaming range->b_,mem_filter->k_
open AH renaming get_set_same->c_,eu->l_
open Tr renaming ofList->d_
open AV renaming bool->e_,az->g_,int->i_,bK->m_
open _root_.Array renaming getElem?_setIfInBounds->f_,toList_filter->h_
noncomputable section
def aA(j:Nat):List AV:=match j with|0=>[.str [],.aB]|1=>[.str [61],.fn 331 [] []]|2=>[.str [33,61],.fn 332 [] []]|3=>[.str [60],.fn 333 [] []]|_=>[.str [62,61],.fn 334 [] []]
def lS:List (AV×AV):=(.any,.any)::[(.int z 1,.agg [.fn 335 [] []]),(.int z 2,.agg [.fn 337 [] []]),(.int z 3,.agg [.fn 339 [] []]),(.int z 4,.agg [.fn 340 [] []]),(.int z 5,.agg [.fn 341 [] []])]
section
theorem uE{P:Program}{I:ba}{ι:Type}{n0:Nat}{J:ι->Prop}{S:ι->St}{E:ι->aQ}{K:ι->Nat}{c:Code}{ir:Bool}(u:I.G<=n0)
  (h:∀i,J i->∀ro n b ρ a w,(ir=false->ro=Option.none)->b.G=I.G->cA b ρ (S i) a w->c.wpIn (WF ro) n P (λx a w=> ∃e,Round n0 J S E K i e/\e.post b ρ x a w) a w):
  ∀m i,J i->K i<m->∀t,t= .inLoop c∨t= .code (.loop c)->∀ro n b ρ a w,(ir=false->ro=Option.none)->b.G=I.G->(∀l,b.E l->l<n0)->cA b ρ (S i) a w->fG (WF ro) n P t ((E i).kx n0 b ρ) a w:=by
 intro m
 induction m with
 |zero=>omega
 |succ m L=>
  intro i M hi t ht ro n b ρ a w k hG o N
  refine mB t ht ?_
  refine wpIn_mono (h i M ro n b ρ a w k hG N) λx a1 Q d=>?_
  obtain⟨e,q,d⟩:=d
  have f:b.G<=n0:=by rw[hG];exact u
  cases e with
  |n s=>
   cases x with
   |normal=>
    obtain⟨R,hx,y⟩:=d
    obtain⟨j,C,V,D,F⟩:=q
    obtain⟨H,T,U⟩:=y.view D f o
    have:=L j C O (.inLoop c) (.inl A) ro n b H a1 Q k hG o U
    rw[F]at this
    exact this.mono λx a w d=>aQ.ja ((iU.of hx).trans T) d
   |_=>exact d.elim
  |x i s=>
   cases x with
   |exit id=>exact aQ.jk q f o (aQ.ji d)
   |_=>exact d.elim
  |g i s=>
   cases x with
   |goto id=>exact aQ.jk q f o (aQ.ji d)
   |_=>exact d.elim
  |r s=>
   cases x with
   |ret=>exact aQ.jk q f o (aQ.ji d)
   |_=>exact d.elim
  |p v s=>simp only[Round,aQ.Le]at q
theorem wF{P I ι s J S E}(k){c ir}{i:ι}(d:I.G<=s.H.n)(o:J i)(start:St.Le s.H.n s (S i))
  (f:∀i,J i->∀ro n b ρ a w,(ir=false->ro=Option.none)->b.G=I.G->cA b ρ (S i) a w->c.wpIn (WF ro) n P (λx a w=> ∃e,Round s.H.n J S E k i e/\e.post b ρ x a w) a w):ew P I ir (.code (.loop c)) s (E i):=by
 intro ro n b ρ a w g hG h
 have m:∀l,b.E l->l<s.H.n:=λl hl=>(h.heap.env l hl).1
 obtain⟨j,p,q⟩:=h.view start (by rw[hG];exact d) m
 have:=uE d f (k i+1) i o (Nat.lt_succ_self _) _ (.inr A) ro n b j a w g hG m q
 exact this.mono λx a w r=>aQ.nG h.heap A (aQ.ja p r)
section
variable {P:Program} {I:ba} (hI:I.Ok P)
def lA(ks:List (aC P I))(a:gy Prop)(fuel:Nat)(ir:Bool)(ops:Array Oper)(b:Oper)(y:Code)(k:KS Prop)(s:St):Prop :=
 l4 RI.jY I (nB RI.jY I (known RI.jY ks) (uA ks a fuel)) (roundOf RI.jY (uA ks a fuel)) ops {k with n:=λc=>uA ks a fuel ir (.code y) c k} [b] s
include hI in
theorem tY{ks:List (aC P I)}{H:gy Prop}(C:eR P I id H){fuel:Nat}{ir:Bool}{ops:Array Oper}{K D:Oper}(q:ops= #[K,D]){y:Code}{k:KS Prop}{s:St}(h:lA ks H fuel ir ops D y k s):
  ∃e:aQ,e.sem id k/\∀ro n c ρ a w (Q:Exit->Act->World->Prop),(ir=false->ro=Option.none)->c.G=I.G->cA c ρ s a w->(∀x a' w',e.post c ρ x a' w'->Q x a' w')->wpOpsIn (WF ro) n P ops (Exit.then (y.wpIn (WF ro) n P Q) Q) [1] a w:=by
 have d:=nH hI ks C fuel
 have m:=OH RI.dJ hI (vU RI.dJ ks) d
 have j:=vJ RI.dJ (P:=P) (I:=I) d
 obtain⟨J,t,o⟩:=K4 RI.dJ hI m j [D] 1 s (by rw[q];rfl) h
 have o:∀ro n c ρ a w (Q:Exit->Act->World->Prop),c.G=I.G->cA c ρ s a w->(∀x a' w',J.post c ρ x a' w'->Q x a' w')->wpOpsIn (WF ro) n P ops Q [1] a w:=o
 cases J with
 |n s1=>
  obtain⟨L,M,N⟩:=d _ _ _ _ t
  refine⟨L,M,λro n c ρ a w Q f hG l hQ=>o ro n c ρ a w _ hG l λx a1 u b=>?_⟩
  cases x with
  |normal=>
   obtain⟨E,hx,F⟩:=b
   exact wpIn_mono (N ro n c E a1 u f hG F) λx a2 O b=>hQ _ _ _ (aQ.gO hx b)
  |_=>exact b.elim
 |x i s1=>
  refine⟨.x i s1,t,λro n c ρ a w Q f hG l hQ=>o ro n c ρ a w _ hG l λx a1 u b=>?_⟩
  cases x with
  |exit id=>exact hQ _ _ _ b
  |_=>exact b.elim
 |g i s1=>
  refine⟨.g i s1,t,λro n c ρ a w Q f hG l hQ=>o ro n c ρ a w _ hG l λx a1 u b=>?_⟩
  cases x with
  |goto id=>exact hQ _ _ _ b
  |_=>exact b.elim
 |r s1=>
  refine⟨.r s1,t,λro n c ρ a w Q f hG l hQ=>o ro n c ρ a w _ hG l λx a1 u b=>?_⟩
  cases x with
  |ret=>exact hQ _ _ _ b
  |_=>exact b.elim
 |p v s1=>
  refine⟨.p v s1,t,λro n c ρ a w Q f hG l hQ=>o ro n c ρ a w _ hG l λx a1 u b=>?_⟩
  cases x with
  |panic R=>exact hQ _ _ _ b
  |_=>exact b.elim
def uX(a:Oper)(s:St):St:=s.put a.dst (.bK [.bool false])
def AM(a:Oper)(b l n:Nat)(f:Nat->Int)(S:List Nat)(s:St)(j:Nat):St:=(s.heap (s.H.set b (.dX l n (j::S)))).put a.dst (.bK [.bool true,.int z (f j),.bool true])
include hI in
theorem Fc{ks:List (aC P I)}{U:gy Prop}(E:eR P I id U){fuel:Nat}{ir:Bool}{id:Nat}{ops:Array Oper}{d V:Oper}(g:ops= #[d,V]){it:Operand}(t:d.op= .next it false)(hg:d.guard=Option.none){y:Code}{k:KS Prop}{kj:Nat->KS Prop}{G:aQ->Prop}(hk:∀e:aQ,e.sem _root_.id k->G e)(W:∀j (e:aQ),e.sem _root_.id (kj j)->G e){s:St}
  {C l n:Nat} {f:Nat->Int} {S:List Nat} (X:s.ev I.G it= .ptr C 0 0 0) (hi:s.H.get C= .dX l n S) (hl:s.H.get l= .iy n f)
  (F:(∀j,j<n->j∈S)->lA ks U fuel ir ops V y k (uX d s)) (Y:∀j,j<n->j∉S->lA ks U fuel ir ops V y (kj j) (AM d C l n f S s j))
  (ro:Option Nat) (Z:Nat) (c:zS) (ρ:Env) (a:Act) (w:World) (J:ir=false->ro=Option.none) (hG:c.G=I.G) (u:cA c ρ s a w):
  (Code.seq (.region id ops false) y).wpIn (WF ro) Z P (λx a w=> ∃e:aQ,G e/\e.post c ρ x a w) a w:=by
 have v:=u.ev hG it
 rw[X]at v
 simp only[VR]at v
 obtain⟨r,R',K,v⟩:=v
 have L:=u.heap.dF C
 rw[hi,K]at L
 obtain⟨b,N,m,M,e1,e2,e3⟩:=L
 cases e1
 have O:=u.heap.dF l
 rw[hl,e2]at O
 obtain⟨b2,N2,f1,f2⟩:=O
 cases f1
 simp only[Nat.zero_mul,Nat.zero_add]at v
 have hd:∀c,d.op≠ .defer c:=by intro c;rw[t];simp
 have Q:∀x∈(dM n f).toArray.toList,x.born<n:=by
  intro x hx
  obtain⟨i,hi,rfl⟩:=List.mem_map.1 hx
  exact List.mem_range.1 hi
 refine wpIn_seq (wpIn_region ?_)
 have ab:b_ ops.size=[0,1]:=by rw[g];rfl
 rw[ab]
 refine oq (o:=d) (by rw[g];rfl) (by simp[Region.wanted,hg]) ⟨iA,?_⟩
 rw[Oper.semAt_eq _ _ _ hd]
 rcases Go.run_next_at (P:=P) w d.type r m n n S.reverse.toArray (dM n f).toArray n e3 f2 Q (dw _)with⟨h0,h⟩|⟨x,hx,q,ad,h⟩
 ·have R:∀j,j<n->j∈S:=by
   intro j T
   apply Classical.byContradiction
   intro p
   have h1:({key:=.int z (f j),val:=.bool true,born:=j}:MapEntry)∈(leftOf (dM n f).toArray S.reverse.toArray).toList:=by
    simp only[leftOf,h_,k_]
    exact⟨vB T,by simpa using p⟩
   have h2:=Array.eq_empty_of_size_eq_zero h0
   rw[h2]at h1
   simp at h1
  obtain⟨e,k1,k2⟩:=tY hI E g (F R)
  have e4:(execOp a.eval d).run P w= .ok (.value (.tuple #[.bool false])) w:=by
   simp only[execOp,t,v,Sem.run_bind,h,Result.andThen_ok,Sem.run_pure]
  rw[e4,Oper.uponIn_value]
  have hs:cA c ρ (uX d s) (a.put d.dst (.tuple #[.bool false])) w :=
   u.put (Ext.refl ρ) u.heap (by simp only[VR];exact⟨[.bool false],rfl,aU.aL.2 ⟨zB,zH⟩⟩) d.dst
  exact k2 ro Z c ρ _ w _ J hG hs λx a1 q hp=>⟨e,hk e k1,hp⟩
 ·simp only[leftOf,h_,k_]at hx
  obtain⟨ag,ai⟩:=hx
  obtain⟨j,T,rfl⟩:=List.mem_map.1 ag
  have T:=List.mem_range.1 T
  have p:j∉S:=by simpa using ai
  obtain⟨e,k1,k2⟩:=tY hI E g (Y j T p)
  have e4:(execOp a.eval d).run P w= .ok (.value (.tuple #[.bool true,.int z (f j),.bool true])) (ChangeMaps.setBlock q r (.mapIter (some m) n (S.reverse.toArray.push j) n)):=by
   simp only[execOp,t,v,Sem.run_bind,h,Result.andThen_ok,Sem.run_pure]
  rw[e4,Oper.uponIn_value]
  have aj:r<w.heap.size:=(Array.getElem?_eq_some_iff.1 e3).1
  have D:q.heap=w.heap/\q.os=w.os/\q.output=w.output/\q.tape=w.tape:=by rcases ad with rfl|rfl<;>exact⟨rfl,rfl,rfl,rfl⟩
  have ap:Rel c ρ (s.H.set C (.dX l n (j::S))) (ChangeMaps.setBlock q r (.mapIter (some m) n (S.reverse.toArray.push j) n)):=by
   refine u.heap.fC _ (by rw[hi];rfl) K (λi p=>?_) ?_ D.2.1 D.2.2.1 D.2.2.2 ?_
   ·simp only[ChangeMaps.setBlock,D.1]
    rw[f_,if_neg (λe=>p e.symm)]
   ·simp only[ChangeMaps.setBlock,D.1]
    simp
   ·refine⟨r,_,m,M,rfl,e2,?_⟩
    simp only[ChangeMaps.setBlock,D.1]
    rw[f_,if_pos A,if_pos aj]
    simp
  have hs:cA c ρ (AM d C l n f S s j) (a.put d.dst (.tuple #[.bool true,.int z (f j),.bool true])) (ChangeMaps.setBlock q r (.mapIter (some m) n (S.reverse.toArray.push j) n)):=
   u.put (Ext.refl ρ) ap (by simp only[VR];exact⟨[.bool true,.int z (f j),.bool true],rfl,aU.aL.2 ⟨zB,aU.aL.2 ⟨zB,aU.aL.2 ⟨zB,zH⟩⟩⟩⟩) d.dst
  exact k2 ro Z c ρ _ _ _ J hG hs λx a1 q hp=>⟨e,W j e k1,hp⟩
theorem Zu.walk(hI:I.Ok P)(ks:List (aC P I)){D:gy Prop}(F:eR P I id D)(fuel:Nat){ι:Type}{c:Code}{ir:Bool}{L:Nat}{o t:Oper}{y:Code}(W:c= .seq (.region L #[o,t] false) y){it:Operand}(M:o.op= .next it false)(X:o.guard=Option.none)
  (n0:Nat) (J:ι->Prop) (S:ι->St) (E:ι->GE) (q:ι->Nat) (m:ι->Nat->ι) (N:ι) (O l:Nat) (n:ι->Nat) (f:ι->Nat->Int) (d:ι->List Nat)
  (Z:Nat.ble I.G n0=true) (hJ:J N) (R:∀i,J i->(S i).ev I.G it= .ptr O 0 0 0/\(S i).H.get O= .dX l (n i) (d i)/\(S i).H.get l= .iy (n i) (f i))
  (u:∀i,J i->(∀j,j<n i->j∈d i)->lA ks D fuel ir #[o,t] t y (tP n0 S E (λi=>i) False i) (uX o (S i)))
  (T:∀i,J i->∀j,j<n i->j∉d i->lA ks D fuel ir #[o,t] t y (tP n0 S E (λi=>m i j) (J (m i j)/\q (m i j)<q i/\(E (m i j)).pick=(E i).pick) i) (AM o O l (n i) (f i) (d i) (S i) j)):
  Zu P I ir c n0 (S N) (E N) where
 h s0 U hs:=by
  subst U
  refine wF (S:=S) (E:=λi=>(E i).pick) (J:=J) q ZD hJ hs λi hi ro nn cx ρ a w V hG hr=>?_
  obtain⟨h1,h2,h3⟩:=R i hi
  rw[W]
  have mono:∀(m:ι->ι)(Q:Prop),(Q->J (m i)/\q (m i)<q i/\(E (m i)).pick=(E i).pick)->∀e:aQ,e.sem id (tP s0.H.n S E m Q i)->Round s0.H.n J S (λi=>(E i).pick) q i e:=by
   intro m Q hQ e C
   cases e with
   |n s=>
    obtain⟨k1,k2⟩:=mF.ok (K:=Q) C
    obtain⟨k3,k4,k5⟩:=hQ k2
    exact⟨m i,k3,k4,k1,k5⟩
   |x b s=>exact GE.fg (g:=E i) C
   |g b s=>exact GE.fg (g:=E i) C
   |r s=>exact GE.fg (g:=E i) C
   |p v s=>exact C.elim
  exact Fc hI F A M X Y (λj=>Y) h1 h2 h3 (u i hi) (T i hi) ro nn cx ρ a w V hG hr
end
end
def HO:AH:={n:=12,t:=d_ [(0,.cells [.az 5 2 aA] .ro)]}
abbrev ko(ks:List (aC PP II))(T:lI)(f:FuncId)(args:List AV)(Q:AV->Prop):Prop :=
 jE ks (mG PP II T) 1000 f args HO (λa H=>qC RI.jY 100000 a H λa' H2=>aa (Nat.ble 12 H2.n) (H2.get 0= .cells [.az 5 2 aA] .ro/\Q a')) (λ_ _=>False)
def Nl:Code->Code
 | .seq _ y=>y
 |_=> .skip
def Qy:Code->Array Oper
 | .seq (.region _ ops _) _=>ops
 |_=> #[]
def Uc:Code->Nat
 | .seq (.region id _ _) _=>id
 |_=>0
def Ud:Oper:={dst:=Option.none,op:=.entry (.tmp 0),type:=0,pos := "",after := #[],guard:=Option.none}
def oper(c:Code)(i:Nat):Oper:=match(Qy c)[i]? with|some o=>o|none=>Ud
abbrev YV{ι:Type}(ks:List (aC PP II))(T:lI)(f key n0:Nat)(S:ι->St)(E:ι->GE)(i:ι):Prop :=
 lA ks (mG PP II T) 1000 false #[oper (aD II f key) 0,oper (aD II f key) 1] (oper (aD II f key) 1) (Nl (aD II f key)) (tP n0 S E (λi=>i) False i) (uX (oper (aD II f key) 0) (S i))
abbrev YW{ι:Type}(ks:List (aC PP II))(T:lI)(f key n0:Nat)(S:ι->St)(E:ι->GE)(b:ι->ι)(Q:Prop)(i:ι)(c l n:Nat)(K:Nat->Int)(a:List Nat)(j:Nat):Prop :=
 lA ks (mG PP II T) 1000 false #[oper (aD II f key) 0,oper (aD II f key) 1] (oper (aD II f key) 1) (Nl (aD II f key)) (tP n0 S E b Q i) (AM (oper (aD II f key) 0) c l n K a (S i) j)
def WT(q:Query)(x:ay)(c p:Int->Bool)(lo hi:Int->Int)(n:Int->Nat)(K:Int->Nat->Int)(i:Int):St:={t:=d_ [(2,.ptr 12 0 0 0),(3,.ptr 13 0 0 0),(7,.bool (c i)),(8,.bool (p i)),(9,.int z (lo i)),(10,.int z (hi i)),(11,.map (some 20)),(31,.az q.nw 3 (au q.C)),(32,.int z q.nw),(33,.int z i)],nt:=124,H:={n:=21,t:=d_ [(0,.cells [.az 5 2 aA] .ro),(12,.cells (aY q) (.ty 32)),(13,.cells (aF x) (.ty 48)),(20,.iy (n i) (K i))]},df:=[]}
def WU(x:ay)(c p:Bool)(lo hi:Int)(n:Nat)(K:Nat->Int):GE:=.one (.x 0 {t:=d_ [(3,.ptr 13 0 0 0),(7,.bool c),(8,.bool p),(9,.int z lo),(10,.int z hi),(11,.map (some 20))],nt:=124,H:={n:=21,t:=d_ [(0,.cells [.az 5 2 aA] .ro),(13,.cells (aF x) (.ty 48)),(20,.iy n K)]},df:=[]})
def Fe(x:ay)(c p:Bool)(lo hi:Int)(n:Nat)(K:Nat->Int)(left:List Nat->Int)(S:List Nat):St:={t:=d_ [(3,.ptr 13 0 0 0),(7,.bool c),(8,.bool p),(9,.int z lo),(10,.int z hi),(15,.int z (left S)),(97,.ptr 21 0 0 0)],nt:=124,H:={n:=22,t:=d_ [(0,.cells [.az 5 2 aA] .ro),(13,.cells (aF x) (.ty 48)),(20,.iy n K),(21,.dX 20 n S)]},df:=[]}
def AN(x:ay)(c p:Bool)(left:Int):GE:=.one (.x 3 {t:=d_ [(3,.ptr 13 0 0 0),(7,.bool c),(8,.bool p),(15,.int z left)],nt:=124,H:={n:=22,t:=d_ [(0,.cells [.az 5 2 aA] .ro),(13,.cells (aF x) (.ty 48))]},df:=[]})
def Qz(x)(c p)(lo hi)(n)(K)(left)(a)(S):(YV [] [] 31 24002 22 (Fe x c p lo hi n K left) (λ_=>AN x c p a) S)=(zyI x.t (zyI x.s (zyI x.v (zyI x.w (zyI x.o (zyI x.p (zyI x.d (zyI x.l (zyI x.h (zyI x.b (zyR 5 aA (aH (left S) a (c=c/\p=p/\True))))))))))))):=U
def Ue(x)(c p)(lo hi)(n)(K)(left)(a)(S)(j)(Q):(YW [] [] 31 24002 22 (Fe x c p lo hi n K left) (λ_ => AN x c p a) (λS => j ::S) Q S 21 20 n K S j) = (aa (Nat.beq n n && Nat.blt j n) (ah (B (K j >= lo)) (ah (B (K j <= hi)) (aa (aN z (left S - (1:Int))) (zyN n (j ::S = j ::S /\ zyN n ((∀(i),i < n -> K i = K i) /\ zyI (ay.t x) (zyI (ay.s x) (zyI (ay.v x) (zyI (ay.w x) (zyI (ay.o x) (zyI (ay.p x) (zyI (ay.d x) (zyI (ay.l x) (zyI (ay.h x) (zyI (ay.b x) (zyR (5:Nat) aA (aH (left S - (1:Int)) (left (j ::S)) (c = c /\ zyI lo (p = p /\ zyI hi Q))))))))))))))))) (zyN n (j ::S = j ::
 S /\ zyN n ((∀(i),i < n -> K i = K i) /\ zyI (ay.t x) (zyI (ay.s x) (zyI (ay.v x) (zyI (ay.w x) (zyI (ay.o x) (zyI (ay.p x) (zyI (ay.d x) (zyI (ay.l x) (zyI (ay.h x) (zyI (ay.b x) (zyR (5:Nat) aA (aH (left S) (left (j ::S)) (c = c /\ zyI lo (p = p /\ zyI hi Q))))))))))))))))) (zyN n (j ::S = j ::S /\ zyN n ((∀(i),i < n -> K i = K i) /\ zyI (ay.t x) (zyI (ay.s x) (zyI (ay.v x) (zyI (ay.w x) (zyI (ay.o x) (zyI (ay.p x) (zyI (ay.d x) (zyI (ay.l x) (zyI (ay.h x) (zyI (ay.b x) (zyR (5:Nat) aA (aH (left S) (left (j ::S)) (c = c /\ zyI lo (p = p /\ zyI hi Q)))))))))))))))))) :=
 by kernel_rfl
def CA(q)(x)(c p)(lo hi)(n)(K)(cE M)(F H)(N)(O)(i)(Q):(kr [jr] [] 31 7001 21 (WT q x c p lo hi n K) (λ_=>WU x cE M F H N O) (λi=>i+1) Q i)=(let e:=(∀(f),f<n i->K i f=K (i+1) f);let g:=(aH (lo i) (lo (i+1)) (zyI (a_ q.nw) (false=p (i+1)/\aH (hi i) (hi (i+1)) Q)));let m:=(aa (aN z (i+1)) (ax (n i) (n (i+1)) (e/\zyI x.t (zyI x.s (zyI x.v (zyI x.w (zyI x.o (zyI x.p (zyI x.d (zyI x.l (zyI x.h (zyI x.b (zyN q.nw (zyR q.nw (au q.C) (zyN q.ng (zyR q.ng (aR q.G) (zyI q.a (zyI q.fl (zyB q.nu (zyB q.de (zyI q.top (zyR 5 aA (zyN q.nw (zyR q.nw (au q.C) (false=c (i+1)/\zyI (i+1) g)))))))))))))))))))))))));let I:=(zyI x.s (zyI x.v (zyI x.w (zyI x.o (zyI x.p (zyI x.d (zyI x.l (zyI x.h (zyI x.b (zyN q.nw (zyR q.nw (au q.C) (zyN q.ng (zyR q.ng (aR q.G) (zyI q.a (zyI q.fl (zyB q.nu (zyB q.de (zyI q.top (zyR 5 aA (zyN q.nw (zyR q.nw (au q.C) (c i=c (i+1)/\zyI (i+1) (aH (lo i) (lo (i+1)) (zyI (a_ q.nw) (p i=p (i+1)/\aH (hi i) (hi (i+1)) Q)))))))))))))))))))))))));let j:=(B (q.C i.toNat 1=q.C i.toNat 1));let k:=(B (q.C i.toNat 2=q.C i.toNat 2));let E:=(!decide (gJ x (q.C i.toNat 0) 0=q.C i.toNat 2));let J:=(aH (lo i) (lo (i+1)) (zyI (a_ q.nw) (B (gJ x (q.C i.toNat 0) 0>=q.C i.toNat 2)=p (i+1)/\aH (hi i) (hi (i+1)) Q)));let L:=(aH (lo i) (lo (i+1)) (zyI (a_ q.nw) (B (gJ x (q.C i.toNat 0) 0=q.C i.toNat 2)=p (i+1)/\aH (hi i) (hi (i+1)) Q)));let r:=(aH (lo i) (lo (i+1)) (zyI (a_ q.nw) (B (gJ x (q.C i.toNat 0) 0<q.C i.toNat 2)=p (i+1)/\aH (hi i) (hi (i+1)) Q)));let u:=(aH (lo i) (lo (i+1)) (zyI (a_ q.nw) (E=p (i+1)/\aH (hi i) (hi (i+1)) Q)));let y:=(aa (aN z (i+1)) (ax (n i) (n (i+1)) (e/\zyI x.t I)));let D:=(if q.C i.toNat 2>lo i then q.C i.toNat 2 else lo i);(ah (B (i<a_ q.nw)) (aa (B (0<=i)&&B (i<a_ q.nw)) (ah (!decide (q.C i.toNat 0=8)) (ah (B (q.C i.toNat 1=0)) (aa j (aa k False)) (ah (B (q.C i.toNat 1=1)) (aa j (aa k (ah (c i) (ah (p i) (aa (aN z (i+1)) (ax (n i) (n (i+1)) (e/\zyI x.t (zyI x.s (zyI x.v (zyI x.w (zyI x.o (zyI x.p (zyI x.d (zyI x.l (zyI x.h (zyI x.b (zyN q.nw (zyR q.nw (au q.C) (zyN q.ng (zyR q.ng (aR q.G) (zyI q.a (zyI q.fl (zyB q.nu (zyB q.de (zyI q.top (zyR 5 aA (zyN q.nw (zyR q.nw (au q.C) (B (gJ x (q.C i.toNat 0) 0=q.C i.toNat 2)=c (i+1)/\zyI (i+1) L))))))))))))))))))))))))) (aa (aN z (i+1)) (ax (n i) (n (i+1)) (e/\zyI x.t (zyI x.s (zyI x.v (zyI x.w (zyI x.o (zyI x.p (zyI x.d (zyI x.l (zyI x.h (zyI x.b (zyN q.nw (zyR q.nw (au q.C) (zyN q.ng (zyR q.ng (aR q.G) (zyI q.a (zyI q.fl (zyB q.nu (zyB q.de (zyI q.top (zyR 5 aA (zyN q.nw (zyR q.nw (au q.C) (B (gJ x (q.C i.toNat 0) 0=q.C i.toNat 2)=c (i+1)/\zyI (i+1) g)))))))))))))))))))))))))) (ah (p i) (aa (aN z (i+1)) (ax (n i) (n (i+1)) (e/\zyI x.t (zyI x.s (zyI x.v (zyI x.w (zyI x.o (zyI x.p (zyI x.d (zyI x.l (zyI x.h (zyI x.b (zyN q.nw (zyR q.nw (au q.C) (zyN q.ng (zyR q.ng (aR q.G) (zyI q.a (zyI q.fl (zyB q.nu (zyB q.de (zyI q.top (zyR 5 aA (zyN q.nw (zyR q.nw (au q.C) (false=c (i+1)/\zyI (i+1) L))))))))))))))))))))))))) m)))) (ah (B (q.C i.toNat 1=2)) (aa j (aa k (ah (c i) (ah (p i) (aa (aN z (i+1)) (ax (n i) (n (i+1)) (e/\zyI x.t (zyI x.s (zyI x.v (zyI x.w (zyI x.o (zyI x.p (zyI x.d (zyI x.l (zyI x.h (zyI x.b (zyN q.nw (zyR q.nw (au q.C) (zyN q.ng (zyR q.ng (aR q.G) (zyI q.a (zyI q.fl (zyB q.nu (zyB q.de (zyI q.top (zyR 5 aA (zyN q.nw (zyR q.nw (au q.C) (E=c (i+1)/\zyI (i+1) u))))))))))))))))))))))))) (aa (aN z (i+1)) (ax (n i) (n (i+1)) (e/\zyI x.t (zyI x.s (zyI x.v (zyI x.w (zyI x.o (zyI x.p (zyI x.d (zyI x.l (zyI x.h (zyI x.b (zyN q.nw (zyR q.nw (au q.C) (zyN q.ng (zyR q.ng (aR q.G) (zyI q.a (zyI q.fl (zyB q.nu (zyB q.de (zyI q.top (zyR 5 aA (zyN q.nw (zyR q.nw (au q.C) (E=c (i+1)/\zyI (i+1) g)))))))))))))))))))))))))) (ah (p i) (aa (aN z (i+1)) (ax (n i) (n (i+1)) (e/\zyI x.t (zyI x.s (zyI x.v (zyI x.w (zyI x.o (zyI x.p (zyI x.d (zyI x.l (zyI x.h (zyI x.b (zyN q.nw (zyR q.nw (au q.C) (zyN q.ng (zyR q.ng (aR q.G) (zyI q.a (zyI q.fl (zyB q.nu (zyB q.de (zyI q.top (zyR 5 aA (zyN q.nw (zyR q.nw (au q.C) (false=c (i+1)/\zyI (i+1) u))))))))))))))))))))))))) m)))) (ah (B (q.C i.toNat 1=3)) (aa j (aa k (ah (c i) (ah (p i) (aa (aN z (i+1)) (ax (n i) (n (i+1)) (e/\zyI x.t (zyI x.s (zyI x.v (zyI x.w (zyI x.o (zyI x.p (zyI x.d (zyI x.l (zyI x.h (zyI x.b (zyN q.nw (zyR q.nw (au q.C) (zyN q.ng (zyR q.ng (aR q.G) (zyI q.a (zyI q.fl (zyB q.nu (zyB q.de (zyI q.top (zyR 5 aA (zyN q.nw (zyR q.nw (au q.C) (B (gJ x (q.C i.toNat 0) 0<q.C i.toNat 2)=c (i+1)/\zyI (i+1) r))))))))))))))))))))))))) (aa (aN z (i+1)) (ax (n i) (n (i+1)) (e/\zyI x.t (zyI x.s (zyI x.v (zyI x.w (zyI x.o (zyI x.p (zyI x.d (zyI x.l (zyI x.h (zyI x.b (zyN q.nw (zyR q.nw (au q.C) (zyN q.ng (zyR q.ng (aR q.G) (zyI q.a (zyI q.fl (zyB q.nu (zyB q.de (zyI q.top (zyR 5 aA (zyN q.nw (zyR q.nw (au q.C) (B (gJ x (q.C i.toNat 0) 0<q.C i.toNat 2)=c (i+1)/\zyI (i+1) g)))))))))))))))))))))))))) (ah (p i) (aa (aN z (i+1)) (ax (n i) (n (i+1)) (e/\zyI x.t (zyI x.s (zyI x.v (zyI x.w (zyI x.o (zyI x.p (zyI x.d (zyI x.l (zyI x.h (zyI x.b (zyN q.nw (zyR q.nw (au q.C) (zyN q.ng (zyR q.ng (aR q.G) (zyI q.a (zyI q.fl (zyB q.nu (zyB q.de (zyI q.top (zyR 5 aA (zyN q.nw (zyR q.nw (au q.C) (false=c (i+1)/\zyI (i+1) r))))))))))))))))))))))))) m)))) (ah (B (q.C i.toNat 1=4)) (aa j (aa k (ah (c i) (ah (p i) (aa (aN z (i+1)) (ax (n i) (n (i+1)) (e/\zyI x.t (zyI x.s (zyI x.v (zyI x.w (zyI x.o (zyI x.p (zyI x.d (zyI x.l (zyI x.h (zyI x.b (zyN q.nw (zyR q.nw (au q.C) (zyN q.ng (zyR q.ng (aR q.G) (zyI q.a (zyI q.fl (zyB q.nu (zyB q.de (zyI q.top (zyR 5 aA (zyN q.nw (zyR q.nw (au q.C) (B (gJ x (q.C i.toNat 0) 0>=q.C i.toNat 2)=c (i+1)/\zyI (i+1) J))))))))))))))))))))))))) (aa (aN z (i+1)) (ax (n i) (n (i+1)) (e/\zyI x.t (zyI x.s (zyI x.v (zyI x.w (zyI x.o (zyI x.p (zyI x.d (zyI x.l (zyI x.h (zyI x.b (zyN q.nw (zyR q.nw (au q.C) (zyN q.ng (zyR q.ng (aR q.G) (zyI q.a (zyI q.fl (zyB q.nu (zyB q.de (zyI q.top (zyR 5 aA (zyN q.nw (zyR q.nw (au q.C) (B (gJ x (q.C i.toNat 0) 0>=q.C i.toNat 2)=c (i+1)/\zyI (i+1) g)))))))))))))))))))))))))) (ah (p i) (aa (aN z (i+1)) (ax (n i) (n (i+1)) (e/\zyI x.t (zyI x.s (zyI x.v (zyI x.w (zyI x.o (zyI x.p (zyI x.d (zyI x.l (zyI x.h (zyI x.b (zyN q.nw (zyR q.nw (au q.C) (zyN q.ng (zyR q.ng (aR q.G) (zyI q.a (zyI q.fl (zyB q.nu (zyB q.de (zyI q.top (zyR 5 aA (zyN q.nw (zyR q.nw (au q.C) (false=c (i+1)/\zyI (i+1) J))))))))))))))))))))))))) m)))) False))))) (ah (B (q.C i.toNat 1=1)) (aa (aN z (i+1)) (ax (n i) (n (i+1)) (e/\zyI x.t (zyI x.s (zyI x.v (zyI x.w (zyI x.o (zyI x.p (zyI x.d (zyI x.l (zyI x.h (zyI x.b (zyN q.nw (zyR q.nw (au q.C) (zyN q.ng (zyR q.ng (aR q.G) (zyI q.a (zyI q.fl (zyB q.nu (zyB q.de (zyI q.top (zyR 5 aA (zyN q.nw (zyR q.nw (au q.C) (c i=c (i+1)/\zyI (i+1) (aH D (lo (i+1)) (zyI (a_ q.nw) (p i=p (i+1)/\aH (if q.C i.toNat 2<hi i then q.C i.toNat 2 else hi i) (hi (i+1)) Q)))))))))))))))))))))))))))) (ah (B (q.C i.toNat 1=2)) (ah (gv (q.C i.toNat 2) (K i) (n i)) y (aa (aN z (i+1)) (ax (n i+1) (n (i+1)) ((∀(f),f<n i+1->dY (n i) (K i) (q.C i.toNat 2) f=K (i+1) f)/\zyI x.t I)))) (ah (B (q.C i.toNat 1=3)) (aa (aN z (q.C i.toNat 2-1)) (aa (aN z (i+1)) (ax (n i) (n (i+1)) (e/\zyI x.t (zyI x.s (zyI x.v (zyI x.w (zyI x.o (zyI x.p (zyI x.d (zyI x.l (zyI x.h (zyI x.b (zyN q.nw (zyR q.nw (au q.C) (zyN q.ng (zyR q.ng (aR q.G) (zyI q.a (zyI q.fl (zyB q.nu (zyB q.de (zyI q.top (zyR 5 aA (zyN q.nw (zyR q.nw (au q.C) (c i=c (i+1)/\zyI (i+1) (aH (lo i) (lo (i+1)) (zyI (a_ q.nw) (p i=p (i+1)/\aH (if q.C i.toNat 2-1<hi i then q.C i.toNat 2-1 else hi i) (hi (i+1)) Q))))))))))))))))))))))))))))) (ah (B (q.C i.toNat 1=4)) (aa (aN z (i+1)) (ax (n i) (n (i+1)) (e/\zyI x.t (zyI x.s (zyI x.v (zyI x.w (zyI x.o (zyI x.p (zyI x.d (zyI x.l (zyI x.h (zyI x.b (zyN q.nw (zyR q.nw (au q.C) (zyN q.ng (zyR q.ng (aR q.G) (zyI q.a (zyI q.fl (zyB q.nu (zyB q.de (zyI q.top (zyR 5 aA (zyN q.nw (zyR q.nw (au q.C) (c i=c (i+1)/\zyI (i+1) (aH D (lo (i+1)) (zyI (a_ q.nw) (p i=p (i+1)/\aH (hi i) (hi (i+1)) Q)))))))))))))))))))))))))))) y)))))) (ax (n i) N ((∀(f),f<n i->K i f=O f)/\zyI x.t (zyI x.s (zyI x.v (zyI x.w (zyI x.o (zyI x.p (zyI x.d (zyI x.l (zyI x.h (zyI x.b (zyR 5 aA (c i=cE/\aH (lo i) F (p i=M/\aH (hi i) H True)))))))))))))))):=U
def Uf(q)(x)(c p)(lo hi)(n)(K)(cE k)(f g)(m)(r)(left)(e)(Q):(ko [lQ,nL] [(7001,21,WT q x c p lo hi n K 0,WU x cE k f g m r),(24002,22,Fe x cE k f g m r left [],AN x cE k e)] 31 [.agg (aY q),.agg (aF x)] Q)=(aa (aI 3 q.nw (au q.C)&&aI 1 q.ng (aR q.G)) (aa (eU {nw:=q.nw,C:=bG (au q.C),ng:=q.ng,G:=λj=>q.G j,a:=q.a,fl:=q.fl,nu:=q.nu,de:=q.de,top:=q.top}) (ah (!bB x) (Zv.cells [g_ 5 2 aA] Access.ro=Zv.cells [g_ 5 2 aA] Access.ro/\Q (m_ [e_ false,e_ false,i_ z 190])) (Zu PP II false (aD II 31 7001) 21 (WT q x c p lo hi n K 0) (WU x cE k f g m r)/\ax 0 (n 0) (zyI x.t (zyI x.s (zyI x.v (zyI x.w (zyI x.o (zyI x.p (zyI x.d (zyI x.l (zyI x.h (zyI x.b (zyN q.nw (zyR q.nw (au q.C) (zyN q.ng (zyR q.ng (aR q.G) (zyI q.a (zyI q.fl (zyB q.nu (zyB q.de (zyI q.top (zyR 5 aA (zyN q.nw (zyR q.nw (au q.C) (true=c 0/\aH x.l (lo 0) (zyI (a_ q.nw) (true=p 0/\aH x.h (hi 0) (aa (aN z (g-f)) (aa (aN z (g-f+1)) (Zu PP II false (aD II 31 24002) 22 (Fe x cE k f g m r left []) (AN x cE k e)/\zyN m (([]:List Nat)=[]/\zyN m ((∀(i),i<m->r i=r i)/\zyI x.t (zyI x.s (zyI x.v (zyI x.w (zyI x.o (zyI x.p (zyI x.d (zyI x.l (zyI x.h (zyI x.b (zyR 5 aA (aH (g-f+1) (left []) (cE=cE/\zyI f (k=k/\zyI g (ah cE (aa (aN z (x.h-x.l)) (aa (aN z (x.h-x.l+1)) (ah k (Zv.cells [g_ 5 2 aA] Access.ro=Zv.cells [g_ 5 2 aA] Access.ro/\Q (m_ [e_ (B (e=x.h-x.l+1)),e_ (B (e>0)),i_ z 0])) (Zv.cells [g_ 5 2 aA] Access.ro=Zv.cells [g_ 5 2 aA] Access.ro/\Q (m_ [e_ (B (e=x.h-x.l+1)),e_ false,i_ z 0]))))) (ah k (Zv.cells [g_ 5 2 aA] Access.ro=Zv.cells [g_ 5 2 aA] Access.ro/\Q (m_ [e_ false,e_ (B (e>0)),i_ z 0])) (Zv.cells [g_ 5 2 aA] Access.ro=Zv.cells [g_ 5 2 aA] Access.ro/\Q (m_ [e_ false,e_ false,i_ z 0]))))))))))))))))))))))))))))))))))))))))))))))))))):=U
def Nn(o v N:Int):Bool:=B ((o=1/\v=N)∨(o=2/\v≠N)∨(o=3/\v<N)∨(o=4/\N<=v))
structure QA (b:Query) (x:ay) (a:Nat) (c c':Bool) (lo lo' hi hi':Int) (n n':Nat) (K K':Nat->Int):Prop where
 mc:c'=(c&&(B (b.C a 0=8)||Nn (b.C a 1) (gJ x (b.C a 0) 0) (b.C a 2)))
 ml:lo'=if b.C a 0=8/\(b.C a 1=1∨b.C a 1=4)then(if b.C a 2>lo then b.C a 2 else lo)else lo
 mh:hi'=if b.C a 0=8/\b.C a 1=1 then(if b.C a 2<hi then b.C a 2 else hi)else if b.C a 0=8/\b.C a 1=3 then(if b.C a 2-1<hi then b.C a 2-1 else hi)else hi
 mn:n'=if b.C a 0=8/\b.C a 1=2/\gv (b.C a 2) K n=false then n+1 else n
 mK:K'=if b.C a 0=8/\b.C a 1=2/\gv (b.C a 2) K n=false then dY n K (b.C a 2)else K
def aZ:an 5 aA aA:=Zj λσ j=>by
 match j with
 |0=>exact⟨rfl,trivial,trivial⟩
 |1=>exact⟨rfl,⟨rfl,trivial,trivial⟩,trivial⟩
 |2=>exact⟨rfl,⟨rfl,trivial,trivial⟩,trivial⟩
 |3=>exact⟨rfl,⟨rfl,trivial,trivial⟩,trivial⟩
 |_+4=>exact⟨rfl,⟨rfl,trivial,trivial⟩,trivial⟩
def Ji(q)(x)(c)(lo hi)(n)(K)(cE)(I J)(X)(Z)(i)(j:Nat)(L:i=(j:Int))(hn:q.nw<=6)(hj:j<q.nw)
  (h8:1<=q.C j 1/\q.C j 1<=4) (hN : -1<=q.C j 2/\q.C j 2<=4398046511104) (hm:QA q x j (c i) (c (i+1)) (lo i) (lo (i+1)) (hi i) (hi (i+1)) (n i) (n (i+1)) (K i) (K (i+1))) (Q) (hQ:Q):
  kr [jr] [] 31 7001 21 (WT q x c c lo hi n K) (λ_=>WU x cE cE I J X Z) (λi=>i+1) Q i:=by
 rw[CA]
 have F:Int.toNat i=j:=O
 have en:a_ q.nw=(q.nw:Int):=rfl
 rw[F]
 obtain⟨mc,ml,mh,mn,mK⟩:=hm
 have hr:(B (0<=i)&&B (i<a_ q.nw))=true:=by simp only[bf,bn];omega
 have M:aN z (i+1)=true:=aq O O
 have R:aN z (q.C j 2-1)=true:=aq O O
 have S:i<a_ q.nw:=O
 clear L F
 generalize hA:q.C j 0=f at*
 generalize hO:q.C j 1=o at*
 generalize ab:q.C j 2=N at*
 generalize hV:gJ x f 0=V at*
 have g:∀(T U:Bool)(y D:Int)(H:Nat)(W:Nat->Int),T=c (i+1)->U=c (i+1)->y=lo (i+1)->D=hi (i+1)->H=n (i+1)->W=K (i+1)->
   aa (aN z (i+1)) (ax H (n (i+1)) ((∀a:Nat,a<H->W a=K (i+1) a)/\aH x.t x.t (aH x.s x.s (aH x.v x.v (aH x.w x.w (aH x.o x.o (aH x.p x.p (aH x.d x.d (aH x.l x.l (aH x.h x.h (aH x.b x.b (ax q.nw q.nw (an q.nw (au q.C) (au q.C)/\ax q.ng q.ng (an q.ng (aR q.G) (aR q.G)/\aH q.a q.a (aH q.fl q.fl (bI q.nu q.nu (bI q.de q.de (aH q.top q.top (an 5 aA aA/\ax q.nw q.nw (an q.nw (au q.C) (au q.C)/\T=c (i+1)/\aH (i+1) (i+1) (aH y (lo (i+1)) (aH (a_ q.nw) (a_ q.nw) (U=c (i+1)/\aH D (hi (i+1)) Q))))))))))))))))))))))):=by
  intro T U y D H W a1 a2 a3 a4 a5 a6
  exact Ze M (YG a5 ⟨λa _=>by rw[a6],Zf A (Zf A (Zf A (Zf A (Zf A (Zf A (Zf A (Zf A (Zf A (Zf A (YG A ⟨bC _ _,YG A ⟨bO _ _,Zf A (Zf A (Zi A (Zi A (Zf A ⟨aZ,YG A ⟨bC _ _,a1,Zf A (Zf a3 (Zf A ⟨a2,Zf a4 hQ⟩))⟩⟩))))⟩⟩))))))))))⟩)
 refine Zg (λ_=>?_) λh=>absurd S h
 refine cC _ _ hr ?_
 refine Zl (λh=>?_) λh=>?_
 ·have r:∀{P:Prop},¬ (f=8/\P):=λe=>h e.1
  rw[if_neg r]at ml
  rw[if_neg r,if_neg r]at mh
  rw[if_neg r]at mn mK
  rw[nZ h,Bool.false_or]at mc
  have yes:∀b,Nn o V N=b->c i=true->b=c (i+1):=ZD
  have no:c i=false->false=c (i+1):=λe=>by rw[mc,e];rfl
  have u:∀(p:Prop) [Decidable p],((o=1/\V=N)∨(o=2/\V≠N)∨(o=3/\V<N)∨(o=4/\N<=V)↔p)->Nn o V N=decide p:=λp _ e=>decide_eq_decide.2 e
  refine Zg O λ_=>?_
  refine Zg (λe=>?_) λF=>?_
  ·refine cC _ _ (bW A) (cC _ _ (bW A) ?_)
   have k:=u (V=N) O
   exact Zh (λd=>Zh (λ_=>g _ _ _ _ _ _ (yes _ k d) (yes _ k d) ml.symm mh.symm mn.symm mK.symm) λE=>Y) λd=>Zh (λE=>Y) λ_=>g _ _ _ _ _ _ (no d) (no d) ml.symm mh.symm mn.symm mK.symm
  refine Zg (λe=>?_) λe2=>?_
  ·refine cC _ _ (bW A) (cC _ _ (bW A) ?_)
   have k:Nn o V N=!decide (V=N):=by rw[u (¬ V=N) O,decide_not]
   exact Zh (λd=>Zh (λ_=>g _ _ _ _ _ _ (yes _ k d) (yes _ k d) ml.symm mh.symm mn.symm mK.symm) λE=>Y) λd=>Zh (λE=>Y) λ_=>g _ _ _ _ _ _ (no d) (no d) ml.symm mh.symm mn.symm mK.symm
  refine Zg (λe=>?_) λe3=>?_
  ·refine cC _ _ (bW A) (cC _ _ (bW A) ?_)
   have k:=u (V<N) O
   exact Zh (λd=>Zh (λ_=>g _ _ _ _ _ _ (yes _ k d) (yes _ k d) ml.symm mh.symm mn.symm mK.symm) λE=>Y) λd=>Zh (λE=>Y) λ_=>g _ _ _ _ _ _ (no d) (no d) ml.symm mh.symm mn.symm mK.symm
  refine Zg (λe=>?_) O
  ·refine cC _ _ (bW A) (cC _ _ (bW A) ?_)
   have k:=u (V>=N) O
   exact Zh (λd=>Zh (λ_=>g _ _ _ _ _ _ (yes _ k d) (yes _ k d) ml.symm mh.symm mn.symm mK.symm) λE=>Y) λd=>Zh (λE=>Y) λ_=>g _ _ _ _ _ _ (no d) (no d) ml.symm mh.symm mn.symm mK.symm
 ·have m:c i=c (i+1):=by rw[mc,bW h,Bool.true_or,Bool.and_true]
  refine Zg (λe=>?_) λF=>?_
  ·rw[if_pos ⟨h,.inl e⟩]at ml
   rw[if_pos ⟨h,e⟩]at mh
   rw[if_neg O]at mn mK
   exact g _ _ _ _ _ _ m m ml.symm mh.symm mn.symm mK.symm
  refine Zg (λe=>?_) λe2=>?_
  ·rw[if_neg O]at ml
   rw[if_neg O,if_neg O]at mh
   refine Zh (λd=>?_) λd=>?_
   ·rw[d]at mn mK
    rw[if_neg zA]at mn mK
    exact g _ _ _ _ _ _ m m ml.symm mh.symm mn.symm mK.symm
   ·rw[if_pos ⟨h,e,d⟩]at mn mK
    exact g _ _ _ _ _ _ m m ml.symm mh.symm mn.symm mK.symm
  refine Zg (λe=>?_) λe3=>?_
  ·rw[if_neg O]at ml
   rw[if_neg O,if_pos ⟨h,e⟩]at mh
   rw[if_neg O]at mn mK
   exact cC _ _ R (g _ _ _ _ _ _ m m ml.symm mh.symm mn.symm mK.symm)
  refine Zg (λe=>?_) O
  ·rw[if_pos ⟨h,.inr e⟩]at ml
   rw[if_neg O,if_neg O]at mh
   rw[if_neg O]at mn mK
   exact g _ _ _ _ _ _ m m ml.symm mh.symm mn.symm mK.symm
structure Ug where
 c:Bool
 lo:Int
 hi:Int
 n:Nat
 K:Nat->Int
def j9(q:Query)(x:ay)(j:Nat)(s:Ug):Ug where
 c:=s.c&&(B (q.C j 0=8)||Nn (q.C j 1) (gJ x (q.C j 0) 0) (q.C j 2))
 lo:=if q.C j 0=8/\(q.C j 1=1∨q.C j 1=4)then(if q.C j 2>s.lo then q.C j 2 else s.lo)else s.lo
 hi:=if q.C j 0=8/\q.C j 1=1 then(if q.C j 2<s.hi then q.C j 2 else s.hi)else if q.C j 0=8/\q.C j 1=3 then(if q.C j 2-1<s.hi then q.C j 2-1 else s.hi)else s.hi
 n:=if q.C j 0=8/\q.C j 1=2/\gv (q.C j 2) s.K s.n=false then s.n+1 else s.n
 K:=if q.C j 0=8/\q.C j 1=2/\gv (q.C j 2) s.K s.n=false then dY s.n s.K (q.C j 2)else s.K
def mf(q:Query)(x:ay):Nat->Ug
 |0=>⟨true,x.l,x.h,0,λ_=>0⟩
 |j+1=>j9 q x j (mf q x j)
def dC(q:Query)(x:ay):Ug:=mf q x q.nw
def rL(lo hi:Int)(K:Nat->Int)(S:List Nat):Nat:=(S.filter λj=>B (lo<=K j)&&B (K j<=hi)).length
def fy(s:Ug)(S:List Nat):Int:=s.hi-s.lo+1-rL s.lo s.hi s.K S
def lT(q:Query)(x:ay):Int:=fy (dC q x) (b_ (dC q x).n)
def jA(q:Query)(x:ay):Bool:=(dC q x).c&&B (lT q x=x.h-x.l+1)
def gk(q:Query)(x:ay):Bool:=(dC q x).c&&B (lT q x>0)
def fQ{q}(h:eU q=true):q.nw<=6/\∀j,j<q.nw->(1<=q.C j 0/\q.C j 0<=8)/\(1<=q.C j 1/\q.C j 1<=4)/\(-1<=q.C j 2/\q.C j 2<=4398046511104):=by
 unfold eU at h
 simp only[bf,bn]at h
 exact⟨h.1.1.1.1.1,λj a=>yO h.1.1.1.2 a⟩
def wG{q x}(a:eU q=true)(hl:0<=x.l/\x.l<=4398046511104)(b:0<=x.h/\x.h<=4398046511104):∀j,j<=q.nw->(-2<=(mf q x j).lo/\(mf q x j).lo<=4398046511104)/\(-2<=(mf q x j).hi/\(mf q x j).hi<=4398046511104)/\(mf q x j).n<=j
 |0,_=>⟨⟨by show -2<=x.l;omega,hl.2⟩,⟨by show -2<=x.h;omega,b.2⟩,dw _⟩
 |j+1,c=>by
  obtain⟨d,e,f⟩:=wG a hl b j O
  obtain⟨_,_,k⟩:=(fQ a).2 j O
  show(-2<=(j9 q x j (mf q x j)).lo/\(j9 q x j (mf q x j)).lo<=4398046511104)/\(-2<=(j9 q x j (mf q x j)).hi/\(j9 q x j (mf q x j)).hi<=4398046511104)/\(j9 q x j (mf q x j)).n<=j+1
  simp only[j9]
  grind
def mS(q:Query)(x:ay)(i:Int):St:=WT q x (λi=>(mf q x i.toNat).c) (λi=>(mf q x i.toNat).c) (λi=>(mf q x i.toNat).lo) (λi=>(mf q x i.toNat).hi) (λi=>(mf q x i.toNat).n) (λi=>(mf q x i.toNat).K) i
def mE(q:Query)(x:ay):GE:=WU x (dC q x).c (dC q x).c (dC q x).lo (dC q x).hi (dC q x).n (dC q x).K
def No(q)(x)(f:eU q=true):Zu PP II false (aD II 31 7001) 21 (mS q x 0) (mE q x):=by
 obtain⟨g,d⟩:=fQ f
 have key:=Zu.of (ι:=Nat) iw [jr] (bm PP II []) 1000 (c:=aD II 31 7001) (ir:=false) 21 (λj=>j<=q.nw) (λj=>mS q x (j:Int)) (λ_=>mE q x) (λj=>q.nw-j) (λj=>j+1) 0 A (Nat.zero_le _) λj e=>?_
 ·exact key
 by_cases a:j<q.nw
 ·have b:((j:Int)).toNat=j:=by omega
  have h:((j:Int)+1).toNat=j+1:=O
  have:=Ji q x (λi=>(mf q x i.toNat).c) (λi=>(mf q x i.toNat).lo) (λi=>(mf q x i.toNat).hi) (λi=>(mf q x i.toNat).n) (λi=>(mf q x i.toNat).K) (dC q x).c (dC q x).lo (dC q x).hi (dC q x).n (dC q x).K (j:Int) j A g a (d j a).2.1 (d j a).2.2
   (by rw[b,h];exact⟨rfl,rfl,rfl,rfl,rfl⟩) (j+1<=q.nw/\q.nw-(j+1)<q.nw-j/\(mE q x).pick=(mE q x).pick) Y
  exact this
 ·have e:j=q.nw:=by have:j<=q.nw:=e;omega
  have done:∀(i:Int)(Q:Prop),i=(q.nw:Int)->kr [jr] [] 31 7001 21 (mS q x) (λ_=>mE q x) (λi=>i+1) Q i:=λi Q k=>by
   have b:i.toNat=q.nw:=O
   refine(CA q x _ _ _ _ _ _ _ _ _ _ _ _ i Q).mpr ?_
   have l:a_ q.nw=(q.nw:Int):=rfl
   refine Zg O λ_=>?_
   rw[b]
   exact YG A ⟨λ_ _=>rfl,Zf A (Zf A (Zf A (Zf A (Zf A (Zf A (Zf A (Zf A (Zf A (Zf A ⟨aZ,rfl,Zf A ⟨rfl,Zf A trivial⟩⟩)))))))))⟩
  exact done (j:Int) _ O
def Uh:aD II 31 24002= .seq (.region (Uc (aD II 31 24002)) #[oper (aD II 31 24002) 0,oper (aD II 31 24002) 1] false) (Nl (aD II 31 24002)):=U
def Ui:(oper (aD II 31 24002) 0).op= .next (.tmp 97) false:=U
def Uj:(oper (aD II 31 24002) 0).guard=Option.none:=U
def Np(lo hi)(K)(S)(j):rL lo hi K (j::S)=rL lo hi K S+(if lo<=K j/\K j<=hi then 1 else 0):=by
 unfold rL
 grind
def pG:∀(n)(S:List Nat),S.Nodup->(∀j,j∈S->j<n)->S.length<=n
 |0,S,_,h=>by
  cases S with
  |nil=>exact dw _
  |cons a S=>exact absurd (h a List.mem_cons_self) (lZ _)
 |n+1,S,b,h=>by
  by_cases hm:n∈S
  ·have:=pG n (S.erase n) (b.erase n) Y
   grind
  ·have:=pG n S b λj c=>by
    grind
   omega
def Jj(x)(c p)(s)(C:s.n<=6)(o : -2<=s.lo/\s.lo<=4398046511104)(q : -2<=s.hi/\s.hi<=4398046511104):
  Zu PP II false (aD II 31 24002) 22 (Fe x c p s.lo s.hi s.n s.K (fy s) []) (AN x c p (fy s (b_ s.n))):=by
 refine Zu.walk iw [] (bm PP II []) 1000 (ι:=List Nat) (ir:=false) Uh Ui Uj 22 (λS=>S.Nodup/\∀j,j∈S->j<s.n) (Fe x c p s.lo s.hi s.n s.K (fy s)) (λ_=>AN x c p (fy s (b_ s.n))) (λS=>s.n-S.length) (λS j=>j::S) [] 21 20 (λ_=>s.n) (λ_=>s.K) (λS=>S) A ⟨List.nodup_nil,λj h=>zE⟩ (λS _=>⟨rfl,rfl,rfl⟩) ?_ ?_
 ·intro S e l
  refine(Qz x c p s.lo s.hi s.n s.K (fy s) (fy s (b_ s.n)) S).mpr ?_
  have r:S.Perm (b_ s.n):=Y
  have t:fy s S=fy s (b_ s.n):=by
   unfold fy rL
   rw[(r.filter _).length_eq]
  exact Zf A (Zf A (Zf A (Zf A (Zf A (Zf A (Zf A (Zf A (Zf A (Zf A ⟨aZ,Zf t Y⟩)))))))))
 ·intro S e j u v
  have m:S.length<=s.n:=pG _ _ e.1 e.2
  have f:(j::S).length<=s.n:=pG _ _ Y ZD
  have w:rL s.lo s.hi s.K S<=S.length:=List.length_filter_le _ _
  have g:((j::S).Nodup/\∀a,a∈j::S->a<s.n)/\s.n-(j::S).length<s.n-S.length/\(AN x c p (fy s (b_ s.n))).pick=(AN x c p (fy s (b_ s.n))).pick :=
   Y
  refine(Ue x c p s.lo s.hi s.n s.K (fy s) (fy s (b_ s.n)) S j _).mpr ?_
  have y:(Nat.beq s.n s.n&&Nat.blt j s.n)=true:=by
   rw[ni,Bool.true_and]
   exact kV u
  have d:fy s (j::S)=fy s S-(if s.lo<=s.K j/\s.K j<=s.hi then 1 else 0):=by
   unfold fy
   rw[Np]
   split<;>omega
  refine cC _ _ y (Zg (λi=>Zg (λk=>?_) λk=>?_) λi=>?_)
  ·rw[if_pos ⟨i,k⟩]at d
   refine cC _ _ (aq (by unfold fy;omega) (by unfold fy;omega)) ?_
   exact YG A ⟨rfl,YG A ⟨λ_ _=>rfl,Zf A (Zf A (Zf A (Zf A (Zf A (Zf A (Zf A (Zf A (Zf A (Zf A ⟨aZ,Zf d.symm ⟨rfl,Zf A ⟨rfl,Zf A g⟩⟩⟩)))))))))⟩⟩
  ·rw[if_neg (λb=>k b.2),n_]at d
   exact YG A ⟨rfl,YG A ⟨λ_ _=>rfl,Zf A (Zf A (Zf A (Zf A (Zf A (Zf A (Zf A (Zf A (Zf A (Zf A ⟨aZ,Zf d.symm ⟨rfl,Zf A ⟨rfl,Zf A g⟩⟩⟩)))))))))⟩⟩
  ·rw[if_neg (λb=>i b.1),n_]at d
   exact YG A ⟨rfl,YG A ⟨λ_ _=>rfl,Zf A (Zf A (Zf A (Zf A (Zf A (Zf A (Zf A (Zf A (Zf A (Zf A ⟨aZ,Zf d.symm ⟨rfl,Zf A ⟨rfl,Zf A g⟩⟩⟩)))))))))⟩⟩
def AO(i):HO.get i=if i=0 then .cells [.az 5 2 aA] .ro else .dead:=by
 show AH.get {n:=12,t:=d_ [(0,_)]} i=_
 simp only[AH.get,d_,Tr.bH,Tr.qV]
 grind
def CB{ks:List (aC PP II)}{T:lI}{f:FuncId}{args:List AV}{a':AV}(b:∀σ,AV.le σ a' a')(h:ko ks T f args (λa=>a=a')):af PP II f args HO (.ret a' HO):=by
 obtain⟨o,c,g⟩:=fJ iw ks (bm PP II T) 1000 f args HO _ _ h
 cases o with
 |ret a H1=>
  obtain⟨x,H2,k1,k2⟩:=lm RI.dJ _ _ _ _ c
  obtain⟨d,k1⟩:=Zk k1
  have k1:H2.get 0= .cells [.az 5 2 aA] .ro/\x=a':=k1
  obtain⟨j,k1⟩:=k1
  subst k1
  refine(g.vW k2).le (ky.of [] (im.of (by rfl) A A A d (gS.2 λl hl=>?_)) (b _))
  rw[AO]
  by_cases e:l=0
  ·subst e
   rw[if_pos A]
   have k:sig HO.n [] H2.n 0=0:=rfl
   have:=jX d
   show if sig HO.n [] H2.n 0<H2.n then Zv.le (sig HO.n [] H2.n) (H2.get (sig HO.n [] H2.n 0)) (Zv.cells [.az 5 2 aA] Access.ro)else _
   rw[k,if_pos O,j]
   exact⟨⟨⟨rfl,rfl,λi hi=>aZ i hi _⟩,trivial⟩,trivial⟩
  ·rw[if_neg e];trivial
 |qt a H1=>exact c.elim
def Uk{q x}(f:aI 3 q.nw (au q.C)=true)(g:aI 1 q.ng (aR q.G)=true)(a:eU q=true)(hx:bB x=true):
  af PP II 31 [.agg (aY q),.agg (aF x)] HO (.ret (.bK [.bool (jA q x),.bool (gk q x),.int z 0]) HO):=by
 have b:=hx
 unfold bB at b
 simp only[bf,bn]at b
 obtain⟨⟨⟨_,hl⟩,j⟩,_⟩:=b
 obtain⟨d,e,k⟩:=wG (x:=x) a ⟨hl.1,O⟩ ⟨O,j⟩ q.nw (dw _)
 have m:=(fQ a).1
 have lp:=No q x a
 have o:=Jj x (dC q x).c (dC q x).c (dC q x) (Nat.le_trans k m) d e
 refine CB (ks:=[lQ,nL]) (T:=[(7001,21,mS q x 0,mE q x),(24002,22,Fe x (dC q x).c (dC q x).c (dC q x).lo (dC q x).hi (dC q x).n (dC q x).K (fy (dC q x)) [],AN x (dC q x).c (dC q x).c (fy (dC q x) (b_ (dC q x).n)))]) (λσ=>⟨rfl,rfl,⟨rfl,rfl⟩,trivial⟩) ?_
 refine(Uf q x (λi=>(mf q x i.toNat).c) (λi=>(mf q x i.toNat).c) (λi=>(mf q x i.toNat).lo) (λi=>(mf q x i.toNat).hi) (λi=>(mf q x i.toNat).n) (λi=>(mf q x i.toNat).K) (dC q x).c (dC q x).c (dC q x).lo (dC q x).hi (dC q x).n (dC q x).K (fy (dC q x)) (fy (dC q x) (b_ (dC q x).n)) _).mpr ?_
 have d : -2<=(dC q x).lo/\(dC q x).lo<=4398046511104:=d
 have e : -2<=(dC q x).hi/\(dC q x).hi<=4398046511104:=e
 have p:fy (dC q x) []=(dC q x).hi-(dC q x).lo+1:=by
  unfold fy
  show _-((0:Nat):Int)=_
  omega
 refine cC _ _ (by rw[f,g];rfl) (cC _ _ zI ?_)
 rw[hx]
 refine⟨lp,YG A (Zf A (Zf A (Zf A (Zf A (Zf A (Zf A (Zf A (Zf A (Zf A (Zf A (YG A ⟨bC _ _,YG A ⟨bO _ _,Zf A (Zf A (Zi A (Zi A (Zf A ⟨aZ,YG A ⟨bC _ _,rfl,Zf A (Zf A ⟨rfl,Zf A ?_⟩)⟩⟩))))⟩⟩)))))))))))⟩
 refine cC _ _ (aq O O) (cC _ _ (aq O O) ⟨o,YG A ⟨rfl,YG A ⟨λ_ _=>rfl,Zf A (Zf A (Zf A (Zf A (Zf A (Zf A (Zf A (Zf A (Zf A (Zf A ⟨aZ,Zf p.symm ⟨rfl,Zf A ⟨rfl,Zf A ?_⟩⟩⟩)))))))))⟩⟩⟩)
 unfold jA gk lT
 have r1:aN z (x.h-x.l)=true:=aq O O
 have r:aN z (x.h-x.l+1)=true:=aq O O
 cases s:(dC q x).c with
 |true=>exact cC _ _ r1 (cC _ _ r ⟨rfl,rfl⟩)
 |false=>exact⟨rfl,rfl⟩
def Rel.same{c ρ H H' w}(h:Rel c ρ H w)(i:H'.n=H.n)(j:∀l,bp ρ w (ρ l) (H.get l)->bp ρ w (ρ l) (H'.get l))(m:∀l,(H'.get l).rw=(H.get l).rw)(d:∀l,H'.get l= .dead↔H.get l= .dead):Rel c ρ H' w where
 dF l:=j l (h.dF l)
 sep l f r N o b a h1 q:=(d f).2 (h.sep l f r N o b Y h1 q)
 gL l r N a h1:=h.gL l r N Y h1
 gH:=h.gH
 size:=h.size
 os:=h.os
 output:=h.output
 tape:=h.tape
 top l hl:=h.top l O
 fp:=h.fp
 hid l r N s h1:=h.hid l r N ZD h1
 env l hl:=by rw[i];exact h.env l hl
 low l hl:=(d l).2 (h.low l O)
 qY:=h.qY
 pV l r N a h1:=h.pV l r N Y h1
 ZN:=h.ZN
 qZ:=h.qZ
def nS(cs:List AV)(i:Nat):Bool:=match i,cs with
 |0,[.str [],.aB]=>true
 |1,[.str [61],.fn 331 [] []]=>true
 |2,[.str [33,61],.fn 332 [] []]=>true
 |3,[.str [60],.fn 333 [] []]=>true
 |4,[.str [62,61],.fn 334 [] []]=>true
 |_,_=>false
def rM(b:Zv):Bool:=match b with
 | .cells [.az 5 2 f] .ro=>nS (f 0) 0&&nS (f 1) 1&&nS (f 2) 2&&nS (f 3) 3&&nS (f 4) 4
 |_=>false
def lB{cs i}(h:nS cs i=true):cs=aA i:=by
 unfold nS at h
 split at h<;>first|rfl|cases h
def wH{b}(h:rM b=true):∃f,b= .cells [.az 5 2 f] .ro/\∀i,i<5->f i=aA i:=by
 unfold rM at h
 split at h
 ·rename_i f
  simp only[bf]at h
  obtain⟨⟨⟨⟨a,c⟩,d⟩,e⟩,g⟩:=h
  refine⟨f,rfl,λi hi=>?_⟩
  match i,hi with
  |0,_=>exact lB a
  |1,_=>exact lB c
  |2,_=>exact lB d
  |3,_=>exact lB e
  |4,_=>exact lB g
  |i+5,h=>omega
 ·cases h
def Ul{f g}(h:∀i,i<5->f i=aA i)(k:∀i,i<5->g i=aA i){ρ w o}(a:bp ρ w o (.cells [.az 5 2 f] .ro)):bp ρ w o (.cells [.az 5 2 g] .ro):=by
 have:Zv.le (λl=>l) (.cells [.az 5 2 f] .ro) (.cells [.az 5 2 g] .ro):=by
  refine⟨⟨⟨rfl,rfl,λi hi=>?_⟩,trivial⟩,trivial⟩
  rw[h i hi,k i hi]
  exact aZ i hi _
 exact bp.le this a
def af.CC{f:FuncId}{args:List AV}{a:AV}{H:AH}(h:af PP II f args HO (.ret a HO))(E:rM (H.get 0)=true)(d:∀σ,bt.bD σ args=args)(ha:∀σ,a.bD σ=a):af PP II f args H (.ret a H):=by
 obtain⟨g,j,y⟩:=wH E
 have o:af PP II f args (H.set 0 (.cells [.az 5 2 aA] .ro)) (.ret a (H.set 0 (.cells [.az 5 2 aA] .ro))):=by
  refine af.SE (I:=II) (H0:=HO) h A (λi hi=>?_) (λi hi C=>?_) d ha
  ·have hi:12<=i:=hi
   rw[AO,if_neg O]
  ·by_cases e:i=0
   ·subst e
    rw[c_,AO,if_pos A]
    exact⟨rfl,λσ=>rfl⟩
   ·rw[AO,if_neg e]at C;exact absurd A C
 have q:∀c ρ w,Rel c ρ H w->Rel c ρ (H.set 0 (.cells [.az 5 2 aA] .ro)) w:=λc ρ w m=>by
  refine m.same A (λl hl=>?_) (λl=>?_) λl=>?_
  ·by_cases e:l=0
   ·subst e
    rw[c_]
    rw[j]at hl
    exact Ul y (λ_ _=>rfl) hl
   ·rw[l_ _ _ (λb=>e b.symm)];exact hl
  ·by_cases e:l=0
   ·subst e;rw[c_,j];rfl
   ·rw[l_ _ _ (λb=>e b.symm)]
  ·by_cases e:l=0
   ·subst e;rw[c_,j];simp
   ·rw[l_ _ _ (λb=>e b.symm)]
 have back:∀c ρ w,Rel c ρ (H.set 0 (.cells [.az 5 2 aA] .ro)) w->Rel c ρ H w:=λc ρ w m=>by
  refine m.same A (λl hl=>?_) (λl=>?_) λl=>?_
  ·by_cases e:l=0
   ·subst e
    rw[c_]at hl
    rw[j]
    exact Ul (λ_ _=>rfl) y hl
   ·rw[l_ _ _ (λb=>e b.symm)]at hl;exact hl
  ·by_cases e:l=0
   ·subst e;rw[c_,j];rfl
   ·rw[l_ _ _ (λb=>e b.symm)]
  ·by_cases e:l=0
   ·subst e;rw[c_,j];simp
   ·rw[l_ _ _ (λb=>e b.symm)]
 intro c ρ w vs hG F m
 have post:∀e w',(CO.ret a (H.set 0 (.cells [.az 5 2 aA] .ro))).post c ρ e w'->(CO.ret a H).post c ρ e w':=by
  intro e w' s
  cases e with
  |returned v=>
   obtain⟨ρ',hx,t,u⟩:=s
   exact⟨ρ',hx,back _ _ _ t,u⟩
  |panicked G=>exact s.elim
  |outgrown=>exact s.elim
 rcases o c ρ w vs hG F (q _ _ _ m)with⟨o,D⟩|⟨v,w',o,D⟩
 ·exact .inl ⟨o,D.mono post⟩
 grind
def WV:aC PP II where
 f:=31
 spec X args H i _:=jK X 100000 args H λb H'=>X.ak (rM (H'.get 0)) (match b with
  |[.agg [.az nw 3 f,.az ng 1 g,.int z a,.int z fl,.str nu,.str de,.int z top],.agg cs]=>X.ak (aI 3 nw f&&aI 1 ng g) (X.ak (eU ⟨nw,bG f,ng,λj=>bV (g j) 0,a,fl,nu,de,top⟩) (match iV cs with
   |some x=>X.ak (bB x) (i (.bK [.bool (jA ⟨nw,bG f,ng,λj=>bV (g j) 0,a,fl,nu,de,top⟩ x),.bool (gk ⟨nw,bG f,ng,λj=>bV (g j) 0,a,fl,nu,de,top⟩ x),.int z 0]) H')
   |none=>X.fail))
  |_=>X.fail)
 ok X sem hX args H i kp h:=by
  obtain⟨b,H',c,k⟩:=gC hX _ _ _ _ h
  obtain⟨l,c⟩:=hX.ak _ _ c
  split at c
  ·rename_i nw f ng g a fl nu de top cs k
   obtain⟨k1,k2⟩:=hX.ak _ _ c
   obtain⟨m,d⟩:=hX.ak _ _ k2
   split at d
   ·rename_i x hx
    obtain⟨n,o⟩:=hX.ak _ _ d
    have e:=fK hx
    subst e
    simp only[bf]at k1
    have p:=(Uk (q:=⟨nw,bG f,ng,λj=>bV (g j) 0,a,fl,nu,de,top⟩) (x:=x) (s8 k1.1) (yP k1.2) m n).dq (args:=[.agg [.az nw 3 f,.az ng 1 g,.int z a,.int z fl,.str nu,.str de,.int z top],.agg (aF x)]) ⟨nQ k1.1 k1.2,⟨⟨rfl,rfl⟩,⟨rfl,rfl⟩,⟨rfl,rfl⟩,⟨rfl,rfl⟩,⟨rfl,rfl⟩,⟨rfl,rfl⟩,⟨rfl,rfl⟩,⟨rfl,rfl⟩,⟨rfl,rfl⟩,⟨rfl,rfl⟩,trivial⟩,trivial⟩
    exact⟨.ret _ H',o,(p.CC l (λ_=>rfl) λ_=>rfl).nI k⟩
   ·exact absurd d hX.fail
  ·exact absurd c hX.fail
end
end Go.Sx
