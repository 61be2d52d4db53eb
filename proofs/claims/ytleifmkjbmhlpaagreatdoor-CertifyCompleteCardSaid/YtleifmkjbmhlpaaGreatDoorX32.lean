/- The proof of a statement of the seat, part 32. -/
import Derived.Test.YtleifmkjbmhlpaaGreatDoorX31
import Derived.Test.YtleifmkjbmhlpaaGreatDoorX07
import Derived.Test.YtleifmkjbmhlpaaGreatDoorX30
set_option linter.all false
set_option linter.defProp false
set_option maxRecDepth 1000000
namespace Go.Sx
open Go
open Decidable renaming decide->M
open Go.IntKind renaming i64->z
open Int renaming ofNat->a_,sub_zero->n_
open List renaming range->b_,mem_filter->k_
open AH renaming get_set_same->c_,aL->l_
open Tr renaming ofList->d_
open AV renaming bool->e_,ae->g_,int->i_,bM->m_
open _root_.Array renaming getElem?_setIfInBounds->f_,toList_filter->h_
noncomputable section
def aC(j:Nat):List AV:=match j with|0=>[.str [],.jm]|1=>[.str [61],.fn 313 [] []]|2=>[.str [33,61],.fn 314 [] []]|3=>[.str [60],.fn 315 [] []]|_=>[.str [62,61],.fn 316 [] []]
def oW:List (AV×AV):=(.any,.any)::[(.int z 1,.agg [.fn 317 [] []]),(.int z 2,.agg [.fn 319 [] []]),(.int z 3,.agg [.fn 321 [] []]),(.int z 4,.agg [.fn 323 [] []]),(.int z 5,.agg [.fn 324 [] []])]
def Hs:AH:={n:=14,t:=d_ [(0,.cells [.ae 5 2 aC] .ro),(1,.cells [.str [48],.str [49]] .ro),(2,.cells bG .ro),(3,.cells [.map (some 13)] .ro),(13,.map oW)]}
abbrev ks9:List (ax PP II):=[Db,EK,oI,kOr,lA,mP,xx,nR,bt,yB,Ij,yS,yU,QJ,Ky,uB,DC,aay]
section
theorem xe{P:Program}{I:bg}{ι:Type}{n0:Nat}{J:ι->Prop}{S:ι->St}{E:ι->aK}{K:ι->Nat}{c:Code}{ir:Bool}(u:I.G<=n0)
  (h:∀i,J i->∀ro n b ρ a w,(ir=false->ro=Option.none)->b.G=I.G->cL b ρ (S i) a w->c.wpIn (WF ro) n P (λx a w=> ∃e,Round n0 J S E K i e/\e.post b ρ x a w) a w):
  ∀m i,J i->K i<m->∀t,t= .inLoop c∨t= .code (.loop c)->∀ro n b ρ a w,(ir=false->ro=Option.none)->b.G=I.G->(∀l,b.E l->l<n0)->cL b ρ (S i) a w->gE (WF ro) n P t ((E i).lN n0 b ρ) a w:=by
 intro m
 induction m with
 |zero=>omega
 |succ m L=>
  intro i N hi t ht ro n b ρ a w k hG o Q;refine oE t ht ?_;refine wpIn_mono (h i N ro n b ρ a w k hG Q) λx a1 R d=>?_
  obtain⟨e,q,d⟩:=d;have f:b.G<=n0:=by rw[hG];exact u
  cases e with
  |n s=>
   cases x with
   |normal=>obtain⟨T,hx,y⟩:=d;obtain⟨j,C,U,D,F⟩:=q;obtain⟨H,h3,h4⟩:=y.view D f o;have:=L j C O (.inLoop c) (.inl A) ro n b H a1 R k hG o h4;rw[F]at this;exact this.mono λx a w d=>aK.jQ ((jI.of hx).trans h3) d
   |_=>exact d.elim
  |x i s=>
   cases x with
   |exit id=>exact aK.j9 q f o (aK.j8 d)
   |_=>exact d.elim
  |g i s=>
   cases x with
   |goto id=>exact aK.j9 q f o (aK.j8 d)
   |_=>exact d.elim
  |r s=>
   cases x with
   |ret=>exact aK.j9 q f o (aK.j8 d)
   |_=>exact d.elim
  |p v s=>simp only[Round,aK.Le]at q
theorem zu{P I ι s J S E}(k){c ir}{i:ι}(d:I.G<=s.H.n)(o:J i)(start:St.Le s.H.n s (S i))
  (f:∀i,J i->∀ro n b ρ a w,(ir=false->ro=Option.none)->b.G=I.G->cL b ρ (S i) a w->c.wpIn (WF ro) n P (λx a w=> ∃e,Round s.H.n J S E k i e/\e.post b ρ x a w) a w):eW P I ir (.code (.loop c)) s (E i):=by
 intro ro n b ρ a w g hG h;have m:∀l,b.E l->l<s.H.n:=λl hl=>(h.heap.env l hl).1
 obtain⟨j,p,q⟩:=h.view start (by rw[hG];exact d) m;have:=xe d f (k i+1) i o (Nat.lt_succ_self _) _ (.inr A) ro n b j a w g hG m q;exact this.mono λx a w r=>aK.pM h.heap A (aK.jQ p r)
section
variable {P:Program} {I:bg} (hI:I.Ok P)
def nj(ks:List (ax P I))(a:jf Prop)(fuel:Nat)(ir:Bool)(ops:Array Oper)(b:Oper)(y:Code)(k:KS Prop)(s:St):Prop :=
 oc RI.l3 I (pH RI.l3 I (known RI.l3 ks) (w7 ks a fuel)) (roundOf RI.l3 (w7 ks a fuel)) ops {k with n:=λc=>w7 ks a fuel ir (.code y) c k} [b] s
include hI in
theorem wG{ks:List (ax P I)}{H:jf Prop}(C:gv P I id H){fuel:Nat}{ir:Bool}{ops:Array Oper}{K D:Oper}(q:ops= #[K,D]){y:Code}{k:KS Prop}{s:St}(h:nj ks H fuel ir ops D y k s):
  ∃e:aK,e.sem id k/\∀ro n c ρ a w (Q:Exit->Act->World->Prop),(ir=false->ro=Option.none)->c.G=I.G->cL c ρ s a w->(∀x a' w',e.post c ρ x a' w'->Q x a' w')->wpOpsIn (WF ro) n P ops (Exit.then (y.wpIn (WF ro) n P Q) Q) [1] a w:=by
 have d:=pN hI ks C fuel;have m:=rQ RI.dX hI (qK RI.dX ks) d;have j:=yd RI.dX (P:=P) (I:=I) d;obtain⟨J,t,o⟩:=tV RI.dX hI m j [D] 1 s (by rw[q];rfl) h;have o:∀ro n c ρ a w (Q:Exit->Act->World->Prop),c.G=I.G->cL c ρ s a w->(∀x a' w',J.post c ρ x a' w'->Q x a' w')->wpOpsIn (WF ro) n P ops Q [1] a w:=o;cases J with
 |n s1=>
  obtain⟨L,h3,h4⟩:=d _ _ _ _ t;refine⟨L,h3,λro n c ρ a w Q f hG l hQ=>o ro n c ρ a w _ hG l λx a1 u b=>?_⟩;cases x with
  |normal=>obtain⟨E,hx,F⟩:=b;exact wpIn_mono (h4 ro n c E a1 u f hG F) λx a2 N b=>hQ _ _ _ (aK.gZ hx b)
  |_=>exact b.elim
 |x i s1=>
  refine⟨.x i s1,t,λro n c ρ a w Q f hG l hQ=>o ro n c ρ a w _ hG l λx a1 u b=>?_⟩;cases x with
  |exit id=>exact hQ _ _ _ b
  |_=>exact b.elim
 |g i s1=>
  refine⟨.g i s1,t,λro n c ρ a w Q f hG l hQ=>o ro n c ρ a w _ hG l λx a1 u b=>?_⟩;cases x with
  |goto id=>exact hQ _ _ _ b
  |_=>exact b.elim
 |r s1=>
  refine⟨.r s1,t,λro n c ρ a w Q f hG l hQ=>o ro n c ρ a w _ hG l λx a1 u b=>?_⟩;cases x with
  |ret=>exact hQ _ _ _ b
  |_=>exact b.elim
 |p v s1=>
  refine⟨.p v s1,t,λro n c ρ a w Q f hG l hQ=>o ro n c ρ a w _ hG l λx a1 u b=>?_⟩;cases x with
  |panic O=>exact hQ _ _ _ b
  |_=>exact b.elim
def xB(a:Oper)(s:St):St:=s.put a.dst (.bM [.bool false])
def DM(a:Oper)(b l n:Nat)(f:Nat->Int)(S:List Nat)(s:St)(j:Nat):St:=(s.heap (s.H.set b (.gy l n (j::S)))).put a.dst (.bM [.bool true,.int z (f j),.bool true])
include hI in
theorem I3{ks:List (ax P I)}{V:jf Prop}(F:gv P I id V){fuel:Nat}{ir:Bool}{id:Nat}{ops:Array Oper}{g W:Oper}(h:ops= #[g,W]){it:Operand}(u:g.op= .next it false)(hg:g.guard=Option.none){y:Code}{k:KS Prop}{kj:Nat->KS Prop}{G:aK->Prop}(hk:∀e:aK,e.sem _root_.id k->G e)(X:∀j (e:aK),e.sem _root_.id (kj j)->G e){s:St}
  {D l n:Nat} {f:Nat->Int} {S:List Nat} (Y:s.ev I.G it= .ptr D 0 0 0) (hi:s.H.get D= .gy l n S) (hl:s.H.get l= .jn n f)
  (J:(∀j,j<n->j∈S)->nj ks V fuel ir ops W y k (xB g s)) (Z:∀j,j<n->j∉S->nj ks V fuel ir ops W y (kj j) (DM g D l n f S s j))
  (ro:Option Nat) (nn:Nat) (c:fE) (ρ:Env) (a:Act) (w:World) (K:ir=false->ro=Option.none) (hG:c.G=I.G) (v:cL c ρ s a w):
  (Code.seq (.region id ops false) y).wpIn (WF ro) nn P (λx a w=> ∃e:aK,G e/\e.post c ρ x a w) a w:=by
 have C:=v.ev hG it;rw[Y]at C;simp only[VR]at C;obtain⟨r,R',L,C⟩:=C;have O:=v.heap.eB D;rw[hi,L]at O;obtain⟨b,N,m,d,e1,e2,e3⟩:=O;cases e1;have Q:=v.heap.eB l;rw[hl,e2]at Q;obtain⟨b2,N2,f1,f2⟩:=Q;cases f1;simp only[Nat.zero_mul,Nat.zero_add]at C;have hd:∀c,g.op≠ .defer c:=by intro c;rw[u];simp
 have R:∀x∈(ec n f).toArray.toList,x.born<n:=by intro x hx;obtain⟨i,hi,rfl⟩:=List.mem_map.1 hx;exact List.mem_range.1 hi
 refine wpIn_seq (wpIn_region ?_);have aa:b_ ops.size=[0,1]:=by rw[h];rfl
 rw[aa];refine nP (o:=g) (by rw[h];rfl) (by simp[Region.wanted,hg]) ⟨jr,?_⟩;rw[Oper.semAt_eq _ _ _ hd];rcases Go.run_next_at (P:=P) w g.type r m n n S.reverse.toArray (ec n f).toArray n e3 f2 R (dP _)with⟨h0,p⟩|⟨x,hx,t,ad,p⟩
 ·have T:∀j,j<n->j∈S:=by
   intro j U;apply Classical.byContradiction;intro q;have h1:({key:=.int z (f j),val:=.bool true,born:=j}:MapEntry)∈(leftOf (ec n f).toArray S.reverse.toArray).toList:=by simp only[leftOf,h_,k_];exact⟨xW U,by simpa using q⟩
   have h2:=Array.eq_empty_of_size_eq_zero h0;rw[h2]at h1;simp at h1
  obtain⟨e,k1,k2⟩:=wG hI F h (J T);have e4:(execOp a.eval g).run P w= .ok (.value (.tuple #[.bool false])) w:=by simp only[execOp,u,C,Sem.run_bind,p,Result.andThen_ok,Sem.run_pure]
  rw[e4,Oper.uponIn_value];have hs:cL c ρ (xB g s) (a.put g.dst (.tuple #[.bool false])) w :=v.put (Ext.refl ρ) v.heap (by simp only[VR];exact⟨[.bool false],rfl,aV.aM.2 ⟨zB,zH⟩⟩) g.dst
  exact k2 ro nn c ρ _ w _ K hG hs λx a1 t hp=>⟨e,hk e k1,hp⟩
 ·simp only[leftOf,h_,k_]at hx;obtain⟨ap,a6⟩:=hx;obtain⟨j,U,rfl⟩:=List.mem_map.1 ap;have U:=List.mem_range.1 U;have q:j∉S:=by simpa using a6
  obtain⟨e,k1,k2⟩:=wG hI F h (Z j U q);have e4:(execOp a.eval g).run P w= .ok (.value (.tuple #[.bool true,.int z (f j),.bool true])) (ChangeMaps.setBlock t r (.mapIter (some m) n (S.reverse.toArray.push j) n)):=by simp only[execOp,u,C,Sem.run_bind,p,Result.andThen_ok,Sem.run_pure]
  rw[e4,Oper.uponIn_value];have a7:r<w.heap.size:=(Array.getElem?_eq_some_iff.1 e3).1;have E:t.heap=w.heap/\t.os=w.os/\t.output=w.output/\t.tape=w.tape:=by rcases ad with rfl|rfl<;>exact⟨rfl,rfl,rfl,rfl⟩
  have bd:Rel c ρ (s.H.set D (.gy l n (j::S))) (ChangeMaps.setBlock t r (.mapIter (some m) n (S.reverse.toArray.push j) n)):=by
   refine v.heap.gX _ (by rw[hi];rfl) L (λi q=>?_) ?_ E.2.1 E.2.2.1 E.2.2.2 ?_
   ·simp only[ChangeMaps.setBlock,E.1];rw[f_,if_neg (λe=>q e.symm)]
   ·simp only[ChangeMaps.setBlock,E.1];simp
   ·refine⟨r,_,m,d,rfl,e2,?_⟩;simp only[ChangeMaps.setBlock,E.1];rw[f_,if_pos A,if_pos a7];simp
  have hs:cL c ρ (DM g D l n f S s j) (a.put g.dst (.tuple #[.bool true,.int z (f j),.bool true])) (ChangeMaps.setBlock t r (.mapIter (some m) n (S.reverse.toArray.push j) n)):=v.put (Ext.refl ρ) bd (by simp only[VR];exact⟨[.bool true,.int z (f j),.bool true],rfl,aV.aM.2 ⟨zB,aV.aM.2 ⟨zB,aV.aM.2 ⟨zB,zH⟩⟩⟩⟩) g.dst
  exact k2 ro nn c ρ _ _ _ K hG hs λx a1 t hp=>⟨e,X j e k1,hp⟩
theorem ay.walk(hI:I.Ok P)(ks:List (ax P I)){D:jf Prop}(F:gv P I id D)(fuel:Nat){ι:Type}{c:Code}{ir:Bool}{L:Nat}{o t:Oper}{y:Code}(X:c= .seq (.region L #[o,t] false) y){it:Operand}(N:o.op= .next it false)(Z:o.guard=Option.none)
  (n0:Nat) (J:ι->Prop) (S:ι->St) (E:ι->GE) (q:ι->Nat) (m:ι->Nat->ι) (O:ι) (R l:Nat) (n:ι->Nat) (f:ι->Nat->Int) (d:ι->List Nat)
  (aa:Nat.ble I.G n0=true) (hJ:J O) (T:∀i,J i->(S i).ev I.G it= .ptr R 0 0 0/\(S i).H.get R= .gy l (n i) (d i)/\(S i).H.get l= .jn (n i) (f i))
  (u:∀i,J i->(∀j,j<n i->j∈d i)->nj ks D fuel ir #[o,t] t y (wo n0 S E (λi=>i) False i) (xB o (S i)))
  (U:∀i,J i->∀j,j<n i->j∉d i->nj ks D fuel ir #[o,t] t y (wo n0 S E (λi=>m i j) (J (m i j)/\q (m i j)<q i/\(E (m i j)).pick=(E i).pick) i) (DM o R l (n i) (f i) (d i) (S i) j)):
  ay P I ir c n0 (S O) (E O) where
 h s0 V hs:=by
  subst V;refine zu (S:=S) (E:=λi=>(E i).pick) (J:=J) q (by simp_all) hJ hs λi hi ro nn cx ρ a w W hG hr=>?_
  obtain⟨h1,h2,h3⟩:=T i hi;rw[X];have mono:∀(m:ι->ι)(Q:Prop),(Q->J (m i)/\q (m i)<q i/\(E (m i)).pick=(E i).pick)->∀e:aK,e.sem id (wo s0.H.n S E m Q i)->Round s0.H.n J S (λi=>(E i).pick) q i e:=by
   intro m Q hQ e C;cases e with
   |n s=>obtain⟨k1,k2⟩:=oH.ok (K:=Q) C;obtain⟨k3,k4,k5⟩:=hQ k2;exact⟨m i,k3,k4,k1,k5⟩
   |x b s=>exact GE.fJ (g:=E i) C
   |g b s=>exact GE.fJ (g:=E i) C
   |r s=>exact GE.fJ (g:=E i) C
   |p v s=>exact C.elim
  exact I3 hI F A N Z Y (λj=>Y) h1 h2 h3 (u i hi) (U i hi) ro nn cx ρ a w W hG hr
end
end
def HO:AH:={n:=12,t:=d_ [(0,.cells [.ae 5 2 aC] .ro)]}
abbrev ko(ks:List (ax PP II))(T:l6)(f:FuncId)(args:List AV)(Q:AV->Prop):Prop :=
 ka ks (mO PP II T) 1000 f args HO (λa H=>tK RI.l3 100000 a H λa' H2=>B (Nat.ble 12 H2.n) (H2.get 0= .cells [.ae 5 2 aC] .ro/\Q a')) (λ_ _=>False)
def Sy:Code->Code
 | .seq _ y=>y
 |_=> .skip
def VO:Code->Array Oper
 | .seq (.region _ ops _) _=>ops
 |_=> #[]
def YP:Code->Nat
 | .seq (.region id _ _) _=>id
 |_=>0
def YQ:Oper:={dst:=Option.none,op:=.entry (.tmp 0),type:=0,pos := "",after := #[],guard:=Option.none}
def oper(c:Code)(i:Nat):Oper:=match(VO c)[i]? with|some o=>o|none=>YQ
abbrev kwE{ι:Type}(ks:List (ax PP II))(T:l6)(f key n0:Nat)(S:ι->St)(E:ι->GE)(i:ι):Prop :=
 nj ks (mO PP II T) 1000 false #[oper (az II f key) 0,oper (az II f key) 1] (oper (az II f key) 1) (Sy (az II f key)) (wo n0 S E (λi=>i) False i) (xB (oper (az II f key) 0) (S i))
abbrev kwN{ι:Type}(ks:List (ax PP II))(T:l6)(f key n0:Nat)(S:ι->St)(E:ι->GE)(b:ι->ι)(Q:Prop)(i:ι)(c l n:Nat)(K:Nat->Int)(a:List Nat)(j:Nat):Prop :=
 nj ks (mO PP II T) 1000 false #[oper (az II f key) 0,oper (az II f key) 1] (oper (az II f key) 1) (Sy (az II f key)) (wo n0 S E b Q i) (DM (oper (az II f key) 0) c l n K a (S i) j)
def s14(q:Query)(x:ao)(c p:Int->Bool)(lo hi:Int->Int)(n:Int->Nat)(K:Int->Nat->Int)(i:Int):St:={t:=d_ [(2,.ptr 12 0 0 0),(3,.ptr 13 0 0 0),(7,.bool (c i)),(8,.bool (p i)),(9,.int z (lo i)),(10,.int z (hi i)),(11,.map (some 20)),(31,.ae q.nw 3 (av q.C)),(32,.int z q.nw),(33,.int z i)],nt:=124,H:={n:=21,t:=d_ [(0,.cells [.ae 5 2 aC] .ro),(12,.cells (aZ q) (.ty 34)),(13,.cells (aB x) (.ty 43)),(20,.jn (n i) (K i))]},df:=[]}
def e14(x:ao)(c p:Bool)(lo hi:Int)(n:Nat)(K:Nat->Int):GE:=.one (.x 0 {t:=d_ [(3,.ptr 13 0 0 0),(7,.bool c),(8,.bool p),(9,.int z lo),(10,.int z hi),(11,.map (some 20))],nt:=124,H:={n:=21,t:=d_ [(0,.cells [.ae 5 2 aC] .ro),(13,.cells (aB x) (.ty 43)),(20,.jn n K)]},df:=[]})
def I4(x:ao)(c p:Bool)(lo hi:Int)(n:Nat)(K:Nat->Int)(left:List Nat->Int)(S:List Nat):St:={t:=d_ [(3,.ptr 13 0 0 0),(7,.bool c),(8,.bool p),(9,.int z lo),(10,.int z hi),(15,.int z (left S)),(97,.ptr 21 0 0 0)],nt:=124,H:={n:=22,t:=d_ [(0,.cells [.ae 5 2 aC] .ro),(13,.cells (aB x) (.ty 43)),(20,.jn n K),(21,.gy 20 n S)]},df:=[]}
def DN(x:ao)(c p:Bool)(left:Int):GE:=.one (.x 3 {t:=d_ [(3,.ptr 13 0 0 0),(7,.bool c),(8,.bool p),(15,.int z left)],nt:=124,H:={n:=22,t:=d_ [(0,.cells [.ae 5 2 aC] .ro),(13,.cells (aB x) (.ty 43))]},df:=[]})
def VP(x)(c p)(lo hi)(n)(K)(left)(a)(S):(kwE [] [] 14 24002 22 (I4 x c p lo hi n K left) (λ_=>DN x c p a) S)=(zyI x.t (zyI x.s (zyI x.v (zyI x.w (zyI x.o (zyI x.p (zyI x.d (zyI x.l (zyI x.h (zyI x.b (zyR 5 aC (aS (left S) a (c=c/\p=p/\True))))))))))))):=U
def YR(x)(c p)(lo hi)(n)(K)(left)(a)(S)(j)(Q):(kwN [] [] 14 24002 22 (I4 x c p lo hi n K left) (λ_ => DN x c p a) (λS => j ::S) Q S 21 20 n K S j) = (B (Nat.beq n n && Nat.blt j n) (ak (M (K j >= lo)) (ak (M (K j <= hi)) (B (aJ z (left S - (1:Int))) (zyN n (j ::S = j ::S /\ zyN n ((∀(i),i < n -> K i = K i) /\ zyI (ao.t x) (zyI (ao.s x) (zyI (ao.v x) (zyI (ao.w x) (zyI (ao.o x) (zyI (ao.p x) (zyI (ao.d x) (zyI (ao.l x) (zyI (ao.h x) (zyI (ao.b x) (zyR (5:Nat) aC (aS (left S - (1:Int)) (left (j ::S)) (c = c /\ zyI lo (p = p /\ zyI hi Q))))))))))))))))) (zyN n (j ::S = j ::
 S /\ zyN n ((∀(i),i < n -> K i = K i) /\ zyI (ao.t x) (zyI (ao.s x) (zyI (ao.v x) (zyI (ao.w x) (zyI (ao.o x) (zyI (ao.p x) (zyI (ao.d x) (zyI (ao.l x) (zyI (ao.h x) (zyI (ao.b x) (zyR (5:Nat) aC (aS (left S) (left (j ::S)) (c = c /\ zyI lo (p = p /\ zyI hi Q))))))))))))))))) (zyN n (j ::S = j ::S /\ zyN n ((∀(i),i < n -> K i = K i) /\ zyI (ao.t x) (zyI (ao.s x) (zyI (ao.v x) (zyI (ao.w x) (zyI (ao.o x) (zyI (ao.p x) (zyI (ao.d x) (zyI (ao.l x) (zyI (ao.h x) (zyI (ao.b x) (zyR (5:Nat) aC (aS (left S) (left (j ::S)) (c = c /\ zyI lo (p = p /\ zyI hi Q)))))))))))))))))) :=
 by kernel_rfl
def FV(q)(x)(c p)(lo hi)(n)(K)(cE N)(F H)(O)(P)(i)(Q):(kr [kx] [] 14 7001 21 (s14 q x c p lo hi n K) (λ_=>e14 x cE N F H O P) (λi=>i+1) Q i)=(let e:=(∀(f),f<n i->K i f=K (i+1) f);let g:=(aS (lo i) (lo (i+1)) (zyI (a_ q.nw) (false=p (i+1)/\aS (hi i) (hi (i+1)) Q)));let m:=(B (aJ z (i+1)) (bh (n i) (n (i+1)) (e/\zyI x.t (zyI x.s (zyI x.v (zyI x.w (zyI x.o (zyI x.p (zyI x.d (zyI x.l (zyI x.h (zyI x.b (zyN q.nw (zyR q.nw (av q.C) (zyN q.ng (zyR q.ng (aN q.G) (zyI q.a (zyI q.fl (zyB q.nu (zyB q.de (zyI q.top (zyR 5 aC (zyN q.nw (zyR q.nw (av q.C) (false=c (i+1)/\zyI (i+1) g)))))))))))))))))))))))));let I:=(zyI x.s (zyI x.v (zyI x.w (zyI x.o (zyI x.p (zyI x.d (zyI x.l (zyI x.h (zyI x.b (zyN q.nw (zyR q.nw (av q.C) (zyN q.ng (zyR q.ng (aN q.G) (zyI q.a (zyI q.fl (zyB q.nu (zyB q.de (zyI q.top (zyR 5 aC (zyN q.nw (zyR q.nw (av q.C) (c i=c (i+1)/\zyI (i+1) (aS (lo i) (lo (i+1)) (zyI (a_ q.nw) (p i=p (i+1)/\aS (hi i) (hi (i+1)) Q)))))))))))))))))))))))));let j:=(M (q.C i.toNat 1=q.C i.toNat 1));let k:=(M (q.C i.toNat 2=q.C i.toNat 2));let E:=(!decide (lF x (q.C i.toNat 0) 0=q.C i.toNat 2));let J:=(aS (lo i) (lo (i+1)) (zyI (a_ q.nw) (M (lF x (q.C i.toNat 0) 0>=q.C i.toNat 2)=p (i+1)/\aS (hi i) (hi (i+1)) Q)));let L:=(aS (lo i) (lo (i+1)) (zyI (a_ q.nw) (M (lF x (q.C i.toNat 0) 0=q.C i.toNat 2)=p (i+1)/\aS (hi i) (hi (i+1)) Q)));let r:=(aS (lo i) (lo (i+1)) (zyI (a_ q.nw) (M (lF x (q.C i.toNat 0) 0<q.C i.toNat 2)=p (i+1)/\aS (hi i) (hi (i+1)) Q)));let u:=(aS (lo i) (lo (i+1)) (zyI (a_ q.nw) (E=p (i+1)/\aS (hi i) (hi (i+1)) Q)));let y:=(B (aJ z (i+1)) (bh (n i) (n (i+1)) (e/\zyI x.t I)));let D:=(if q.C i.toNat 2>lo i then q.C i.toNat 2 else lo i);(ak (M (i<a_ q.nw)) (B (M (0<=i)&&M (i<a_ q.nw)) (ak (!decide (q.C i.toNat 0=8)) (ak (M (q.C i.toNat 1=0)) (B j (B k False)) (ak (M (q.C i.toNat 1=1)) (B j (B k (ak (c i) (ak (p i) (B (aJ z (i+1)) (bh (n i) (n (i+1)) (e/\zyI x.t (zyI x.s (zyI x.v (zyI x.w (zyI x.o (zyI x.p (zyI x.d (zyI x.l (zyI x.h (zyI x.b (zyN q.nw (zyR q.nw (av q.C) (zyN q.ng (zyR q.ng (aN q.G) (zyI q.a (zyI q.fl (zyB q.nu (zyB q.de (zyI q.top (zyR 5 aC (zyN q.nw (zyR q.nw (av q.C) (M (lF x (q.C i.toNat 0) 0=q.C i.toNat 2)=c (i+1)/\zyI (i+1) L))))))))))))))))))))))))) (B (aJ z (i+1)) (bh (n i) (n (i+1)) (e/\zyI x.t (zyI x.s (zyI x.v (zyI x.w (zyI x.o (zyI x.p (zyI x.d (zyI x.l (zyI x.h (zyI x.b (zyN q.nw (zyR q.nw (av q.C) (zyN q.ng (zyR q.ng (aN q.G) (zyI q.a (zyI q.fl (zyB q.nu (zyB q.de (zyI q.top (zyR 5 aC (zyN q.nw (zyR q.nw (av q.C) (M (lF x (q.C i.toNat 0) 0=q.C i.toNat 2)=c (i+1)/\zyI (i+1) g)))))))))))))))))))))))))) (ak (p i) (B (aJ z (i+1)) (bh (n i) (n (i+1)) (e/\zyI x.t (zyI x.s (zyI x.v (zyI x.w (zyI x.o (zyI x.p (zyI x.d (zyI x.l (zyI x.h (zyI x.b (zyN q.nw (zyR q.nw (av q.C) (zyN q.ng (zyR q.ng (aN q.G) (zyI q.a (zyI q.fl (zyB q.nu (zyB q.de (zyI q.top (zyR 5 aC (zyN q.nw (zyR q.nw (av q.C) (false=c (i+1)/\zyI (i+1) L))))))))))))))))))))))))) m)))) (ak (M (q.C i.toNat 1=2)) (B j (B k (ak (c i) (ak (p i) (B (aJ z (i+1)) (bh (n i) (n (i+1)) (e/\zyI x.t (zyI x.s (zyI x.v (zyI x.w (zyI x.o (zyI x.p (zyI x.d (zyI x.l (zyI x.h (zyI x.b (zyN q.nw (zyR q.nw (av q.C) (zyN q.ng (zyR q.ng (aN q.G) (zyI q.a (zyI q.fl (zyB q.nu (zyB q.de (zyI q.top (zyR 5 aC (zyN q.nw (zyR q.nw (av q.C) (E=c (i+1)/\zyI (i+1) u))))))))))))))))))))))))) (B (aJ z (i+1)) (bh (n i) (n (i+1)) (e/\zyI x.t (zyI x.s (zyI x.v (zyI x.w (zyI x.o (zyI x.p (zyI x.d (zyI x.l (zyI x.h (zyI x.b (zyN q.nw (zyR q.nw (av q.C) (zyN q.ng (zyR q.ng (aN q.G) (zyI q.a (zyI q.fl (zyB q.nu (zyB q.de (zyI q.top (zyR 5 aC (zyN q.nw (zyR q.nw (av q.C) (E=c (i+1)/\zyI (i+1) g)))))))))))))))))))))))))) (ak (p i) (B (aJ z (i+1)) (bh (n i) (n (i+1)) (e/\zyI x.t (zyI x.s (zyI x.v (zyI x.w (zyI x.o (zyI x.p (zyI x.d (zyI x.l (zyI x.h (zyI x.b (zyN q.nw (zyR q.nw (av q.C) (zyN q.ng (zyR q.ng (aN q.G) (zyI q.a (zyI q.fl (zyB q.nu (zyB q.de (zyI q.top (zyR 5 aC (zyN q.nw (zyR q.nw (av q.C) (false=c (i+1)/\zyI (i+1) u))))))))))))))))))))))))) m)))) (ak (M (q.C i.toNat 1=3)) (B j (B k (ak (c i) (ak (p i) (B (aJ z (i+1)) (bh (n i) (n (i+1)) (e/\zyI x.t (zyI x.s (zyI x.v (zyI x.w (zyI x.o (zyI x.p (zyI x.d (zyI x.l (zyI x.h (zyI x.b (zyN q.nw (zyR q.nw (av q.C) (zyN q.ng (zyR q.ng (aN q.G) (zyI q.a (zyI q.fl (zyB q.nu (zyB q.de (zyI q.top (zyR 5 aC (zyN q.nw (zyR q.nw (av q.C) (M (lF x (q.C i.toNat 0) 0<q.C i.toNat 2)=c (i+1)/\zyI (i+1) r))))))))))))))))))))))))) (B (aJ z (i+1)) (bh (n i) (n (i+1)) (e/\zyI x.t (zyI x.s (zyI x.v (zyI x.w (zyI x.o (zyI x.p (zyI x.d (zyI x.l (zyI x.h (zyI x.b (zyN q.nw (zyR q.nw (av q.C) (zyN q.ng (zyR q.ng (aN q.G) (zyI q.a (zyI q.fl (zyB q.nu (zyB q.de (zyI q.top (zyR 5 aC (zyN q.nw (zyR q.nw (av q.C) (M (lF x (q.C i.toNat 0) 0<q.C i.toNat 2)=c (i+1)/\zyI (i+1) g)))))))))))))))))))))))))) (ak (p i) (B (aJ z (i+1)) (bh (n i) (n (i+1)) (e/\zyI x.t (zyI x.s (zyI x.v (zyI x.w (zyI x.o (zyI x.p (zyI x.d (zyI x.l (zyI x.h (zyI x.b (zyN q.nw (zyR q.nw (av q.C) (zyN q.ng (zyR q.ng (aN q.G) (zyI q.a (zyI q.fl (zyB q.nu (zyB q.de (zyI q.top (zyR 5 aC (zyN q.nw (zyR q.nw (av q.C) (false=c (i+1)/\zyI (i+1) r))))))))))))))))))))))))) m)))) (ak (M (q.C i.toNat 1=4)) (B j (B k (ak (c i) (ak (p i) (B (aJ z (i+1)) (bh (n i) (n (i+1)) (e/\zyI x.t (zyI x.s (zyI x.v (zyI x.w (zyI x.o (zyI x.p (zyI x.d (zyI x.l (zyI x.h (zyI x.b (zyN q.nw (zyR q.nw (av q.C) (zyN q.ng (zyR q.ng (aN q.G) (zyI q.a (zyI q.fl (zyB q.nu (zyB q.de (zyI q.top (zyR 5 aC (zyN q.nw (zyR q.nw (av q.C) (M (lF x (q.C i.toNat 0) 0>=q.C i.toNat 2)=c (i+1)/\zyI (i+1) J))))))))))))))))))))))))) (B (aJ z (i+1)) (bh (n i) (n (i+1)) (e/\zyI x.t (zyI x.s (zyI x.v (zyI x.w (zyI x.o (zyI x.p (zyI x.d (zyI x.l (zyI x.h (zyI x.b (zyN q.nw (zyR q.nw (av q.C) (zyN q.ng (zyR q.ng (aN q.G) (zyI q.a (zyI q.fl (zyB q.nu (zyB q.de (zyI q.top (zyR 5 aC (zyN q.nw (zyR q.nw (av q.C) (M (lF x (q.C i.toNat 0) 0>=q.C i.toNat 2)=c (i+1)/\zyI (i+1) g)))))))))))))))))))))))))) (ak (p i) (B (aJ z (i+1)) (bh (n i) (n (i+1)) (e/\zyI x.t (zyI x.s (zyI x.v (zyI x.w (zyI x.o (zyI x.p (zyI x.d (zyI x.l (zyI x.h (zyI x.b (zyN q.nw (zyR q.nw (av q.C) (zyN q.ng (zyR q.ng (aN q.G) (zyI q.a (zyI q.fl (zyB q.nu (zyB q.de (zyI q.top (zyR 5 aC (zyN q.nw (zyR q.nw (av q.C) (false=c (i+1)/\zyI (i+1) J))))))))))))))))))))))))) m)))) False))))) (ak (M (q.C i.toNat 1=1)) (B (aJ z (i+1)) (bh (n i) (n (i+1)) (e/\zyI x.t (zyI x.s (zyI x.v (zyI x.w (zyI x.o (zyI x.p (zyI x.d (zyI x.l (zyI x.h (zyI x.b (zyN q.nw (zyR q.nw (av q.C) (zyN q.ng (zyR q.ng (aN q.G) (zyI q.a (zyI q.fl (zyB q.nu (zyB q.de (zyI q.top (zyR 5 aC (zyN q.nw (zyR q.nw (av q.C) (c i=c (i+1)/\zyI (i+1) (aS D (lo (i+1)) (zyI (a_ q.nw) (p i=p (i+1)/\aS (if q.C i.toNat 2<hi i then q.C i.toNat 2 else hi i) (hi (i+1)) Q)))))))))))))))))))))))))))) (ak (M (q.C i.toNat 1=2)) (ak (eS (q.C i.toNat 2) (K i) (n i)) y (B (aJ z (i+1)) (bh (n i+1) (n (i+1)) ((∀(f),f<n i+1->dT (n i) (K i) (q.C i.toNat 2) f=K (i+1) f)/\zyI x.t I)))) (ak (M (q.C i.toNat 1=3)) (B (aJ z (q.C i.toNat 2-1)) (B (aJ z (i+1)) (bh (n i) (n (i+1)) (e/\zyI x.t (zyI x.s (zyI x.v (zyI x.w (zyI x.o (zyI x.p (zyI x.d (zyI x.l (zyI x.h (zyI x.b (zyN q.nw (zyR q.nw (av q.C) (zyN q.ng (zyR q.ng (aN q.G) (zyI q.a (zyI q.fl (zyB q.nu (zyB q.de (zyI q.top (zyR 5 aC (zyN q.nw (zyR q.nw (av q.C) (c i=c (i+1)/\zyI (i+1) (aS (lo i) (lo (i+1)) (zyI (a_ q.nw) (p i=p (i+1)/\aS (if q.C i.toNat 2-1<hi i then q.C i.toNat 2-1 else hi i) (hi (i+1)) Q))))))))))))))))))))))))))))) (ak (M (q.C i.toNat 1=4)) (B (aJ z (i+1)) (bh (n i) (n (i+1)) (e/\zyI x.t (zyI x.s (zyI x.v (zyI x.w (zyI x.o (zyI x.p (zyI x.d (zyI x.l (zyI x.h (zyI x.b (zyN q.nw (zyR q.nw (av q.C) (zyN q.ng (zyR q.ng (aN q.G) (zyI q.a (zyI q.fl (zyB q.nu (zyB q.de (zyI q.top (zyR 5 aC (zyN q.nw (zyR q.nw (av q.C) (c i=c (i+1)/\zyI (i+1) (aS D (lo (i+1)) (zyI (a_ q.nw) (p i=p (i+1)/\aS (hi i) (hi (i+1)) Q)))))))))))))))))))))))))))) y)))))) (bh (n i) O ((∀(f),f<n i->K i f=P f)/\zyI x.t (zyI x.s (zyI x.v (zyI x.w (zyI x.o (zyI x.p (zyI x.d (zyI x.l (zyI x.h (zyI x.b (zyR 5 aC (c i=cE/\aS (lo i) F (p i=N/\aS (hi i) H True)))))))))))))))):=U
def YS(q)(x)(c p)(lo hi)(n)(K)(cE k)(f g)(m)(r)(left)(e)(Q):(ko [kU,lA] [(7001,21,s14 q x c p lo hi n K 0,e14 x cE k f g m r),(24002,22,I4 x cE k f g m r left [],DN x cE k e)] 14 [.agg (aZ q),.agg (aB x)] Q)=(B (ar 3 q.nw (av q.C)&&ar 1 q.ng (aN q.G)) (B (fx {nw:=q.nw,C:=aF (av q.C),ng:=q.ng,G:=λj=>q.G j,a:=q.a,fl:=q.fl,nu:=q.nu,de:=q.de,top:=q.top}) (ak (!bE x) (aae.cells [g_ 5 2 aC] Access.ro=aae.cells [g_ 5 2 aC] Access.ro/\Q (m_ [e_ false,e_ false,i_ z 190])) (ay PP II false (az II 14 7001) 21 (s14 q x c p lo hi n K 0) (e14 x cE k f g m r)/\bh 0 (n 0) (zyI x.t (zyI x.s (zyI x.v (zyI x.w (zyI x.o (zyI x.p (zyI x.d (zyI x.l (zyI x.h (zyI x.b (zyN q.nw (zyR q.nw (av q.C) (zyN q.ng (zyR q.ng (aN q.G) (zyI q.a (zyI q.fl (zyB q.nu (zyB q.de (zyI q.top (zyR 5 aC (zyN q.nw (zyR q.nw (av q.C) (true=c 0/\aS x.l (lo 0) (zyI (a_ q.nw) (true=p 0/\aS x.h (hi 0) (B (aJ z (g-f)) (B (aJ z (g-f+1)) (ay PP II false (az II 14 24002) 22 (I4 x cE k f g m r left []) (DN x cE k e)/\zyN m (([]:List Nat)=[]/\zyN m ((∀(i),i<m->r i=r i)/\zyI x.t (zyI x.s (zyI x.v (zyI x.w (zyI x.o (zyI x.p (zyI x.d (zyI x.l (zyI x.h (zyI x.b (zyR 5 aC (aS (g-f+1) (left []) (cE=cE/\zyI f (k=k/\zyI g (ak cE (B (aJ z (x.h-x.l)) (B (aJ z (x.h-x.l+1)) (ak k (aae.cells [g_ 5 2 aC] Access.ro=aae.cells [g_ 5 2 aC] Access.ro/\Q (m_ [e_ (M (e=x.h-x.l+1)),e_ (M (e>0)),i_ z 0])) (aae.cells [g_ 5 2 aC] Access.ro=aae.cells [g_ 5 2 aC] Access.ro/\Q (m_ [e_ (M (e=x.h-x.l+1)),e_ false,i_ z 0]))))) (ak k (aae.cells [g_ 5 2 aC] Access.ro=aae.cells [g_ 5 2 aC] Access.ro/\Q (m_ [e_ false,e_ (M (e>0)),i_ z 0])) (aae.cells [g_ 5 2 aC] Access.ro=aae.cells [g_ 5 2 aC] Access.ro/\Q (m_ [e_ false,e_ false,i_ z 0]))))))))))))))))))))))))))))))))))))))))))))))))))):=U
def Sz(o v N:Int):Bool:=M ((o=1/\v=N)∨(o=2/\v≠N)∨(o=3/\v<N)∨(o=4/\N<=v))
structure VQ (b:Query) (x:ao) (a:Nat) (c c':Bool) (lo lo' hi hi':Int) (n n':Nat) (K K':Nat->Int):Prop where
 mc:c'=(c&&(M (b.C a 0=8)||Sz (b.C a 1) (lF x (b.C a 0) 0) (b.C a 2)))
 ml:lo'=if b.C a 0=8/\(b.C a 1=1∨b.C a 1=4)then(if b.C a 2>lo then b.C a 2 else lo)else lo
 mh:hi'=if b.C a 0=8/\b.C a 1=1 then(if b.C a 2<hi then b.C a 2 else hi)else if b.C a 0=8/\b.C a 1=3 then(if b.C a 2-1<hi then b.C a 2-1 else hi)else hi
 mn:n'=if b.C a 0=8/\b.C a 1=2/\eS (b.C a 2) K n=false then n+1 else n
 mK:K'=if b.C a 0=8/\b.C a 1=2/\eS (b.C a 2) K n=false then dT n K (b.C a 2)else K
def bV:an 5 aC aC:=aaX λσ j=>by
 match j with
 |0=>exact⟨rfl,trivial,trivial⟩
 |1=>exact⟨rfl,⟨rfl,trivial,trivial⟩,trivial⟩
 |2=>exact⟨rfl,⟨rfl,trivial,trivial⟩,trivial⟩
 |3=>exact⟨rfl,⟨rfl,trivial,trivial⟩,trivial⟩
 |_+4=>exact⟨rfl,⟨rfl,trivial,trivial⟩,trivial⟩
def NO(q)(x)(c)(lo hi)(n)(K)(cE)(L R)(nE)(KE)(i)(j:Nat)(S:i=(j:Int))(hn:q.nw<=6)(hj:j<q.nw)
  (h8:1<=q.C j 1/\q.C j 1<=4) (hN : -1<=q.C j 2/\q.C j 2<=4398046511104) (hm:VQ q x j (c i) (c (i+1)) (lo i) (lo (i+1)) (hi i) (hi (i+1)) (n i) (n (i+1)) (K i) (K (i+1))) (Q) (hQ:Q):
  kr [kx] [] 14 7001 21 (s14 q x c c lo hi n K) (λ_=>e14 x cE cE L R nE KE) (λi=>i+1) Q i:=by
 rw[FV];have I:Int.toNat i=j:=O;have en:a_ q.nw=(q.nw:Int):=rfl;rw[I];obtain⟨mc,ml,mh,mn,mK⟩:=hm;have hr:(M (0<=i)&&M (i<a_ q.nw))=true:=by simp only[ba,bl];omega
 have T:aJ z (i+1)=true:=ai O O;have U:aJ z (q.C j 2-1)=true:=ai O O;have W:i<a_ q.nw:=O;clear S I;generalize hA:q.C j 0=f at*;generalize hO:q.C j 1=o at*;generalize aa:q.C j 2=N at*;generalize hV:lF x f 0=V at*;have k:∀(X Y:Bool)(F H:Int)(J:Nat)(Z:Nat->Int),X=c (i+1)->Y=c (i+1)->F=lo (i+1)->H=hi (i+1)->J=n (i+1)->Z=K (i+1)->
   B (aJ z (i+1)) (bh J (n (i+1)) ((∀a:Nat,a<J->Z a=K (i+1) a)/\aS x.t x.t (aS x.s x.s (aS x.v x.v (aS x.w x.w (aS x.o x.o (aS x.p x.p (aS x.d x.d (aS x.l x.l (aS x.h x.h (aS x.b x.b (bh q.nw q.nw (an q.nw (av q.C) (av q.C)/\bh q.ng q.ng (an q.ng (aN q.G) (aN q.G)/\aS q.a q.a (aS q.fl q.fl (eX q.nu q.nu (eX q.de q.de (aS q.top q.top (an 5 aC aC/\bh q.nw q.nw (an q.nw (av q.C) (av q.C)/\X=c (i+1)/\aS (i+1) (i+1) (aS F (lo (i+1)) (aS (a_ q.nw) (a_ q.nw) (Y=c (i+1)/\aS H (hi (i+1)) Q))))))))))))))))))))))):=by
  intro X Y F H J Z a1 a2 a3 a4 a5 a6;exact ZF T (aan a5 ⟨λa _=>by rw[a6],aag A (aag A (aag A (aag A (aag A (aag A (aag A (aag A (aag A (aag A (aan A ⟨cM _ _,aan A ⟨dJ _ _,aag A (aag A (aaY A (aaY A (aag A ⟨bV,aan A ⟨cM _ _,a1,aag A (aag a3 (aag A ⟨a2,aag a4 hQ⟩))⟩⟩))))⟩⟩))))))))))⟩)
 refine aaA (λ_=>?_) λh=>absurd W h
 refine ZE _ _ hr ?_;refine aa0 (λh=>?_) λh=>?_
 ·have D:∀{P:Prop},¬ (f=8/\P):=λe=>h e.1
  rw[if_neg D]at ml;rw[if_neg D,if_neg D]at mh;rw[if_neg D]at mn mK;rw[nJ h,Bool.false_or]at mc;have r:∀b,Sz o V N=b->c i=true->b=c (i+1):=λb I e2=>by rw[mc,I,e2];rfl
  have no:c i=false->false=c (i+1):=λe=>by rw[mc,e];rfl
  have E:∀(p:Prop) [Decidable p],((o=1/\V=N)∨(o=2/\V≠N)∨(o=3/\V<N)∨(o=4/\N<=V)↔p)->Sz o V N=decide p:=λp _ e=>decide_eq_decide.2 e
  refine aaA (λe=>absurd e O) λ_=>?_
  refine aaA (λe=>?_) λI=>?_
  ·refine ZE _ _ (bK A) (ZE _ _ (bK A) ?_);have u:=E (V=N) O;exact aaz (λd=>aaz (λ_=>k _ _ _ _ _ _ (r _ u d) (r _ u d) ml.symm mh.symm mn.symm mK.symm) λm=>by rw[d]at m;cases m) λd=>aaz (λm=>by rw[d]at m;cases m) λ_=>k _ _ _ _ _ _ (no d) (no d) ml.symm mh.symm mn.symm mK.symm
  refine aaA (λe=>?_) λe2=>?_
  ·refine ZE _ _ (bK A) (ZE _ _ (bK A) ?_);have u:Sz o V N=!decide (V=N):=by rw[E (¬ V=N) O,decide_not]
   exact aaz (λd=>aaz (λ_=>k _ _ _ _ _ _ (r _ u d) (r _ u d) ml.symm mh.symm mn.symm mK.symm) λm=>by rw[d]at m;cases m) λd=>aaz (λm=>by rw[d]at m;cases m) λ_=>k _ _ _ _ _ _ (no d) (no d) ml.symm mh.symm mn.symm mK.symm
  refine aaA (λe=>?_) λe3=>?_
  ·refine ZE _ _ (bK A) (ZE _ _ (bK A) ?_);have u:=E (V<N) O;exact aaz (λd=>aaz (λ_=>k _ _ _ _ _ _ (r _ u d) (r _ u d) ml.symm mh.symm mn.symm mK.symm) λm=>by rw[d]at m;cases m) λd=>aaz (λm=>by rw[d]at m;cases m) λ_=>k _ _ _ _ _ _ (no d) (no d) ml.symm mh.symm mn.symm mK.symm
  refine aaA (λe=>?_) λe4=>absurd h8 O
  ·refine ZE _ _ (bK A) (ZE _ _ (bK A) ?_);have u:=E (V>=N) O;exact aaz (λd=>aaz (λ_=>k _ _ _ _ _ _ (r _ u d) (r _ u d) ml.symm mh.symm mn.symm mK.symm) λm=>by rw[d]at m;cases m) λd=>aaz (λm=>by rw[d]at m;cases m) λ_=>k _ _ _ _ _ _ (no d) (no d) ml.symm mh.symm mn.symm mK.symm
 ·have y:c i=c (i+1):=by rw[mc,bK h,Bool.true_or,Bool.and_true]
  refine aaA (λe=>?_) λI=>?_
  ·rw[if_pos ⟨h,.inl e⟩]at ml;rw[if_pos ⟨h,e⟩]at mh;rw[if_neg O]at mn mK;exact k _ _ _ _ _ _ y y ml.symm mh.symm mn.symm mK.symm
  refine aaA (λe=>?_) λe2=>?_
  ·rw[if_neg O]at ml;rw[if_neg O,if_neg O]at mh;refine aaz (λd=>?_) λd=>?_
   ·rw[d]at mn mK;rw[if_neg (λg=>by cases g.2.2)]at mn mK;exact k _ _ _ _ _ _ y y ml.symm mh.symm mn.symm mK.symm
   ·rw[if_pos ⟨h,e,d⟩]at mn mK;exact k _ _ _ _ _ _ y y ml.symm mh.symm mn.symm mK.symm
  refine aaA (λe=>?_) λe3=>?_
  ·rw[if_neg O]at ml;rw[if_neg O,if_pos ⟨h,e⟩]at mh;rw[if_neg O]at mn mK;exact ZE _ _ U (k _ _ _ _ _ _ y y ml.symm mh.symm mn.symm mK.symm)
  refine aaA (λe=>?_) λe4=>absurd h8 O
  ·rw[if_pos ⟨h,.inr e⟩]at ml;rw[if_neg O,if_neg O]at mh;rw[if_neg O]at mn mK;exact k _ _ _ _ _ _ y y ml.symm mh.symm mn.symm mK.symm
structure T8 where
 c:Bool
 lo:Int
 hi:Int
 n:Nat
 K:Nat->Int
def eA(q:Query)(x:ao)(j:Nat)(s:T8):T8 where
 c:=s.c&&(M (q.C j 0=8)||Sz (q.C j 1) (lF x (q.C j 0) 0) (q.C j 2))
 lo:=if q.C j 0=8/\(q.C j 1=1∨q.C j 1=4)then(if q.C j 2>s.lo then q.C j 2 else s.lo)else s.lo
 hi:=if q.C j 0=8/\q.C j 1=1 then(if q.C j 2<s.hi then q.C j 2 else s.hi)else if q.C j 0=8/\q.C j 1=3 then(if q.C j 2-1<s.hi then q.C j 2-1 else s.hi)else s.hi
 n:=if q.C j 0=8/\q.C j 1=2/\eS (q.C j 2) s.K s.n=false then s.n+1 else s.n
 K:=if q.C j 0=8/\q.C j 1=2/\eS (q.C j 2) s.K s.n=false then dT s.n s.K (q.C j 2)else s.K
def lg(q:Query)(x:ao):Nat->T8
 |0=>⟨true,x.l,x.h,0,λ_=>0⟩
 |j+1=>eA q x j (lg q x j)
def cY(q:Query)(x:ao):T8:=lg q x q.nw
def sR(lo hi:Int)(K:Nat->Int)(S:List Nat):Nat:=(S.filter λj=>M (lo<=K j)&&M (K j<=hi)).length
def fL(s:T8)(S:List Nat):Int:=s.hi-s.lo+1-sR s.lo s.hi s.K S
def ky(q:Query)(x:ao):Int:=fL (cY q x) (b_ (cY q x).n)
def nk(q:Query)(x:ao):Bool:=(cY q x).c&&M (ky q x=x.h-x.l+1)
def gn(q:Query)(x:ao):Bool:=(cY q x).c&&M (ky q x>0)
def gM{q}(h:fx q=true):q.nw<=6/\∀j,j<q.nw->(1<=q.C j 0/\q.C j 0<=8)/\(1<=q.C j 1/\q.C j 1<=4)/\(-1<=q.C j 2/\q.C j 2<=4398046511104):=by
 unfold fx at h;simp only[ba,bl]at h;exact⟨h.1.1.1.1.1,λj a=>BY h.1.1.1.2 a⟩
def zx{q x}(a:fx q=true)(hl:0<=x.l/\x.l<=4398046511104)(b:0<=x.h/\x.h<=4398046511104):∀j,j<=q.nw->(-2<=(lg q x j).lo/\(lg q x j).lo<=4398046511104)/\(-2<=(lg q x j).hi/\(lg q x j).hi<=4398046511104)/\(lg q x j).n<=j
 |0,_=>⟨⟨by show -2<=x.l;omega,hl.2⟩,⟨by show -2<=x.h;omega,b.2⟩,dP _⟩
 |j+1,c=>by
  obtain⟨d,e,h3⟩:=zx a hl b j O;obtain⟨_,_,k⟩:=(gM a).2 j O;show(-2<=(eA q x j (lg q x j)).lo/\(eA q x j (lg q x j)).lo<=4398046511104)/\(-2<=(eA q x j (lg q x j)).hi/\(eA q x j (lg q x j)).hi<=4398046511104)/\(eA q x j (lg q x j)).n<=j+1;simp only[eA]
  grind
def mS(q:Query)(x:ao)(i:Int):St:=s14 q x (λi=>(lg q x i.toNat).c) (λi=>(lg q x i.toNat).c) (λi=>(lg q x i.toNat).lo) (λi=>(lg q x i.toNat).hi) (λi=>(lg q x i.toNat).n) (λi=>(lg q x i.toNat).K) i
def mE(q:Query)(x:ao):GE:=e14 x (cY q x).c (cY q x).c (cY q x).lo (cY q x).hi (cY q x).n (cY q x).K
def SA(q)(x)(f:fx q=true):ay PP II false (az II 14 7001) 21 (mS q x 0) (mE q x):=by
 obtain⟨g,d⟩:=gM f;have key:=ay.of (ι:=Nat) fU [kx] (aX PP II []) 1000 (c:=az II 14 7001) (ir:=false) 21 (λj=>j<=q.nw) (λj=>mS q x (j:Int)) (λ_=>mE q x) (λj=>q.nw-j) (λj=>j+1) 0 A (Nat.zero_le _) λj e=>?_
 ·exact key
 by_cases a:j<q.nw
 ·have b:((j:Int)).toNat=j:=by omega
  have h:((j:Int)+1).toNat=j+1:=O;have:=NO q x (λi=>(lg q x i.toNat).c) (λi=>(lg q x i.toNat).lo) (λi=>(lg q x i.toNat).hi) (λi=>(lg q x i.toNat).n) (λi=>(lg q x i.toNat).K) (cY q x).c (cY q x).lo (cY q x).hi (cY q x).n (cY q x).K (j:Int) j A g a (d j a).2.1 (d j a).2.2
   (by rw[b,h];exact⟨rfl,rfl,rfl,rfl,rfl⟩) (j+1<=q.nw/\q.nw-(j+1)<q.nw-j/\(mE q x).pick=(mE q x).pick) Y
  exact this
 ·have e:j=q.nw:=by have:j<=q.nw:=e;omega
  have done:∀(i:Int)(Q:Prop),i=(q.nw:Int)->kr [kx] [] 14 7001 21 (mS q x) (λ_=>mE q x) (λi=>i+1) Q i:=λi Q k=>by
   have b:i.toNat=q.nw:=O;refine(FV q x _ _ _ _ _ _ _ _ _ _ _ _ i Q).mpr ?_;have l:a_ q.nw=(q.nw:Int):=rfl;refine aaA O λ_=>?_
   rw[b];exact aan A ⟨λ_ _=>rfl,aag A (aag A (aag A (aag A (aag A (aag A (aag A (aag A (aag A (aag A ⟨bV,rfl,aag A ⟨rfl,aag A trivial⟩⟩)))))))))⟩
  exact done (j:Int) _ O
def YT:az II 14 24002= .seq (.region (YP (az II 14 24002)) #[oper (az II 14 24002) 0,oper (az II 14 24002) 1] false) (Sy (az II 14 24002)):=U
def YU:(oper (az II 14 24002) 0).op= .next (.tmp 97) false:=U
def YV:(oper (az II 14 24002) 0).guard=Option.none:=U
def SC(lo hi)(K)(S)(j):sR lo hi K (j::S)=sR lo hi K S+(if lo<=K j/\K j<=hi then 1 else 0):=by
 unfold sR
 grind
def sh:∀(n)(S:List Nat),S.Nodup->(∀j,j∈S->j<n)->S.length<=n
 |0,S,_,h=>by
  cases S with
  |nil=>exact dP _
  |cons a S=>exact absurd (h a List.mem_cons_self) (qx _)
 |n+1,S,b,h=>by
  by_cases hm:n∈S
  ·have:=sh n (S.erase n) (b.erase n) Y
   grind
  ·have:=sh n S b λj c=>by
    grind
   omega
def NP(x)(c p)(s)(C:s.n<=6)(o : -2<=s.lo/\s.lo<=4398046511104)(q : -2<=s.hi/\s.hi<=4398046511104):
  ay PP II false (az II 14 24002) 22 (I4 x c p s.lo s.hi s.n s.K (fL s) []) (DN x c p (fL s (b_ s.n))):=by
 refine ay.walk fU [] (aX PP II []) 1000 (ι:=List Nat) (ir:=false) YT YU YV 22 (λS=>S.Nodup/\∀j,j∈S->j<s.n) (I4 x c p s.lo s.hi s.n s.K (fL s)) (λ_=>DN x c p (fL s (b_ s.n))) (λS=>s.n-S.length) (λS j=>j::S) [] 21 20 (λ_=>s.n) (λ_=>s.K) (λS=>S) A ⟨List.nodup_nil,λj h=>zE⟩ (λS _=>⟨rfl,rfl,rfl⟩) ?_ ?_
 ·intro S e l;refine(VP x c p s.lo s.hi s.n s.K (fL s) (fL s (b_ s.n)) S).mpr ?_;have r:S.Perm (b_ s.n):=Y;have t:fL s S=fL s (b_ s.n):=by
   unfold fL sR;rw[(r.filter _).length_eq]
  exact aag A (aag A (aag A (aag A (aag A (aag A (aag A (aag A (aag A (aag A ⟨bV,aag t Y⟩)))))))))
 ·intro S e j u v;have m:S.length<=s.n:=sh _ _ e.1 e.2;have f:(j::S).length<=s.n:=sh _ _ Y (by simp_all);have w:sR s.lo s.hi s.K S<=S.length:=List.length_filter_le _ _;have g:((j::S).Nodup/\∀a,a∈j::S->a<s.n)/\s.n-(j::S).length<s.n-S.length/\(DN x c p (fL s (b_ s.n))).pick=(DN x c p (fL s (b_ s.n))).pick :=
   Y
  refine(YR x c p s.lo s.hi s.n s.K (fL s) (fL s (b_ s.n)) S j _).mpr ?_;have y:(Nat.beq s.n s.n&&Nat.blt j s.n)=true:=by rw[qy,Bool.true_and];exact il u
  have d:fL s (j::S)=fL s S-(if s.lo<=s.K j/\s.K j<=s.hi then 1 else 0):=by unfold fL;rw[SC];split<;>omega
  refine ZE _ _ y (aaA (λi=>aaA (λk=>?_) λk=>?_) λi=>?_)
  ·rw[if_pos ⟨i,k⟩]at d;refine ZE _ _ (ai (by unfold fL;omega) (by unfold fL;omega)) ?_;exact aan A ⟨rfl,aan A ⟨λ_ _=>rfl,aag A (aag A (aag A (aag A (aag A (aag A (aag A (aag A (aag A (aag A ⟨bV,aag d.symm ⟨rfl,aag A ⟨rfl,aag A g⟩⟩⟩)))))))))⟩⟩
  ·rw[if_neg (λb=>k b.2),n_]at d;exact aan A ⟨rfl,aan A ⟨λ_ _=>rfl,aag A (aag A (aag A (aag A (aag A (aag A (aag A (aag A (aag A (aag A ⟨bV,aag d.symm ⟨rfl,aag A ⟨rfl,aag A g⟩⟩⟩)))))))))⟩⟩
  ·rw[if_neg (λb=>i b.1),n_]at d;exact aan A ⟨rfl,aan A ⟨λ_ _=>rfl,aag A (aag A (aag A (aag A (aag A (aag A (aag A (aag A (aag A (aag A ⟨bV,aag d.symm ⟨rfl,aag A ⟨rfl,aag A g⟩⟩⟩)))))))))⟩⟩
def DO(i):HO.get i=if i=0 then .cells [.ae 5 2 aC] .ro else .dead:=by
 show AH.get {n:=12,t:=d_ [(0,_)]} i=_;simp only[AH.get,d_,Tr.bk,Tr.nK]
 grind
def FW{ks:List (ax PP II)}{T:l6}{f:FuncId}{args:List AV}{a':AV}(b:∀σ,AV.le σ a' a')(h:ko ks T f args (λa=>a=a')):af PP II f args HO (.ret a' HO):=by
 obtain⟨o,c,g⟩:=iJ fU ks (aX PP II T) 1000 f args HO _ _ h;cases o with
 |ret a H1=>
  obtain⟨x,H2,k1,k2⟩:=lz RI.dX _ _ _ _ c;obtain⟨d,k1⟩:=aaZ k1;have k1:H2.get 0= .cells [.ae 5 2 aC] .ro/\x=a':=k1;obtain⟨j,k1⟩:=k1;subst k1;refine(g.yu k2).le (mM.of [] (ie.of (by rfl) A A A d (fI.2 λl hl=>?_)) (b _));rw[DO];by_cases e:l=0
  ·subst e;rw[if_pos A];have k:sig HO.n [] H2.n 0=0:=rfl;have:=fT d;show if sig HO.n [] H2.n 0<H2.n then aae.le (sig HO.n [] H2.n) (H2.get (sig HO.n [] H2.n 0)) (aae.cells [.ae 5 2 aC] Access.ro)else _
   rw[k,if_pos O,j];exact⟨⟨⟨rfl,rfl,λi hi=>bV i hi _⟩,trivial⟩,trivial⟩
  ·rw[if_neg e];trivial
 |rL a H1=>exact c.elim
def YW{q x}(f:ar 3 q.nw (av q.C)=true)(g:ar 1 q.ng (aN q.G)=true)(a:fx q=true)(hx:bE x=true):
  af PP II 14 [.agg (aZ q),.agg (aB x)] HO (.ret (.bM [.bool (nk q x),.bool (gn q x),.int z 0]) HO):=by
 have b:=hx;unfold bE at b;simp only[ba,bl]at b;obtain⟨⟨⟨_,hl⟩,j⟩,_⟩:=b;obtain⟨d,e,k⟩:=zx (x:=x) a ⟨hl.1,O⟩ ⟨O,j⟩ q.nw (dP _);have m:=(gM a).1;have lp:=SA q x a;have o:=NP x (cY q x).c (cY q x).c (cY q x) (Nat.le_trans k m) d e;refine FW (ks:=[kU,lA]) (T:=[(7001,21,mS q x 0,mE q x),(24002,22,I4 x (cY q x).c (cY q x).c (cY q x).lo (cY q x).hi (cY q x).n (cY q x).K (fL (cY q x)) [],DN x (cY q x).c (cY q x).c (fL (cY q x) (b_ (cY q x).n)))]) (λσ=>⟨rfl,rfl,⟨rfl,rfl⟩,trivial⟩) ?_;refine(YS q x (λi=>(lg q x i.toNat).c) (λi=>(lg q x i.toNat).c) (λi=>(lg q x i.toNat).lo) (λi=>(lg q x i.toNat).hi) (λi=>(lg q x i.toNat).n) (λi=>(lg q x i.toNat).K) (cY q x).c (cY q x).c (cY q x).lo (cY q x).hi (cY q x).n (cY q x).K (fL (cY q x)) (fL (cY q x) (b_ (cY q x).n)) _).mpr ?_;have d : -2<=(cY q x).lo/\(cY q x).lo<=4398046511104:=d;have e : -2<=(cY q x).hi/\(cY q x).hi<=4398046511104:=e;have p:fL (cY q x) []=(cY q x).hi-(cY q x).lo+1:=by unfold fL;show _-((0:Nat):Int)=_;omega
 refine ZE _ _ (by rw[f,g];rfl) (ZE _ _ zI ?_);rw[hx];refine⟨lp,aan A (aag A (aag A (aag A (aag A (aag A (aag A (aag A (aag A (aag A (aag A (aan A ⟨cM _ _,aan A ⟨dJ _ _,aag A (aag A (aaY A (aaY A (aag A ⟨bV,aan A ⟨cM _ _,rfl,aag A (aag A ⟨rfl,aag A ?_⟩)⟩⟩))))⟩⟩)))))))))))⟩;refine ZE _ _ (ai O O) (ZE _ _ (ai O O) ⟨o,aan A ⟨rfl,aan A ⟨λ_ _=>rfl,aag A (aag A (aag A (aag A (aag A (aag A (aag A (aag A (aag A (aag A ⟨bV,aag p.symm ⟨rfl,aag A ⟨rfl,aag A ?_⟩⟩⟩)))))))))⟩⟩⟩)
 unfold nk gn ky;have r1:aJ z (x.h-x.l)=true:=ai O O;have r:aJ z (x.h-x.l+1)=true:=ai O O;cases s:(cY q x).c with
 |true=>exact ZE _ _ r1 (ZE _ _ r ⟨rfl,rfl⟩)
 |false=>exact⟨rfl,rfl⟩
def Rel.same{c ρ H H' w}(h:Rel c ρ H w)(i:H'.n=H.n)(j:∀l,bn ρ w (ρ l) (H.get l)->bn ρ w (ρ l) (H'.get l))(m:∀l,(H'.get l).rw=(H.get l).rw)(d:∀l,H'.get l= .dead↔H.get l= .dead):Rel c ρ H' w where
 eB l:=j l (h.eB l)
 sep l f r N o b a h1 q:=(d f).2 (h.sep l f r N o b Y h1 q)
 iB l r N a h1:=h.iB l r N Y h1
 gY:=h.gY
 size:=h.size
 os:=h.os
 output:=h.output
 tape:=h.tape
 top l hl:=h.top l O
 eZ:=h.eZ
 hid l r N s h1:=h.hid l r N (by simp_all) h1
 env l hl:=by rw[i];exact h.env l hl
 low l hl:=(d l).2 (h.low l O)
 sY:=h.sY
 sy l r N a h1:=h.sy l r N Y h1
 tJ:=h.tJ
 sZ:=h.sZ
def p9(cs:List AV)(i:Nat):Bool:=match i,cs with
 |0,[.str [],.jm]=>true
 |1,[.str [61],.fn 313 [] []]=>true
 |2,[.str [33,61],.fn 314 [] []]=>true
 |3,[.str [60],.fn 315 [] []]=>true
 |4,[.str [62,61],.fn 316 [] []]=>true
 |_,_=>false
def uI(b:aae):Bool:=match b with
 | .cells [.ae 5 2 f] .ro=>p9 (f 0) 0&&p9 (f 1) 1&&p9 (f 2) 2&&p9 (f 3) 3&&p9 (f 4) 4
 |_=>false
def nq{cs i}(h:p9 cs i=true):cs=aC i:=by
 unfold p9 at h;split at h<;>first|rfl|cases h
def zy{b}(h:uI b=true):∃f,b= .cells [.ae 5 2 f] .ro/\∀i,i<5->f i=aC i:=by
 unfold uI at h;split at h
 ·rename_i f;simp only[ba]at h;obtain⟨⟨⟨⟨a,c⟩,d⟩,h3⟩,h4⟩:=h;refine⟨f,rfl,λi hi=>?_⟩
  match i,hi with
  |0,_=>exact nq a
  |1,_=>exact nq c
  |2,_=>exact nq d
  |3,_=>exact nq h3
  |4,_=>exact nq h4
  |i+5,h=>omega
 ·cases h
def YX{f g}(h:∀i,i<5->f i=aC i)(k:∀i,i<5->g i=aC i){ρ w o}(a:bn ρ w o (.cells [.ae 5 2 f] .ro)):bn ρ w o (.cells [.ae 5 2 g] .ro):=by
 have:aae.le (λl=>l) (.cells [.ae 5 2 f] .ro) (.cells [.ae 5 2 g] .ro):=by refine⟨⟨⟨rfl,rfl,λi hi=>?_⟩,trivial⟩,trivial⟩;rw[h i hi,k i hi];exact bV i hi _
 exact bn.le this a
def af.I5{f:FuncId}{args:List AV}{a:AV}{H:AH}(h:af PP II f args HO (.ret a HO))(E:uI (H.get 0)=true)(d:∀σ,bj.bx σ args=args)(ha:∀σ,a.bx σ=a):af PP II f args H (.ret a H):=by
 obtain⟨g,j,y⟩:=zy E;have o:af PP II f args (H.set 0 (.cells [.ae 5 2 aC] .ro)) (.ret a (H.set 0 (.cells [.ae 5 2 aC] .ro))):=by
  refine af.Qx (I:=II) (H0:=HO) h A (λi hi=>?_) (λi hi C=>?_) d ha
  ·have hi:12<=i:=hi;rw[DO,if_neg O]
  ·by_cases e:i=0
   ·subst e;rw[c_,DO,if_pos A];exact⟨rfl,λσ=>rfl⟩
   ·rw[DO,if_neg e]at C;exact absurd A C
 have q:∀c ρ w,Rel c ρ H w->Rel c ρ (H.set 0 (.cells [.ae 5 2 aC] .ro)) w:=λc ρ w m=>by
  refine m.same A (λl hl=>?_) (λl=>?_) λl=>?_
  ·by_cases e:l=0
   ·subst e;rw[c_];rw[j]at hl;exact YX y (λ_ _=>rfl) hl
   ·rw[l_ _ _ (λb=>e b.symm)];exact hl
  ·by_cases e:l=0
   ·subst e;rw[c_,j];rfl
   ·rw[l_ _ _ (λb=>e b.symm)]
  ·by_cases e:l=0
   ·subst e;rw[c_,j];simp
   ·rw[l_ _ _ (λb=>e b.symm)]
 have back:∀c ρ w,Rel c ρ (H.set 0 (.cells [.ae 5 2 aC] .ro)) w->Rel c ρ H w:=λc ρ w m=>by
  refine m.same A (λl hl=>?_) (λl=>?_) λl=>?_
  ·by_cases e:l=0
   ·subst e;rw[c_]at hl;rw[j];exact YX (λ_ _=>rfl) y hl
   ·rw[l_ _ _ (λb=>e b.symm)]at hl;exact hl
  ·by_cases e:l=0
   ·subst e;rw[c_,j];rfl
   ·rw[l_ _ _ (λb=>e b.symm)]
  ·by_cases e:l=0
   ·subst e;rw[c_,j];simp
   ·rw[l_ _ _ (λb=>e b.symm)]
 intro c ρ w vs hG F m;have post:∀e w',(CO.ret a (H.set 0 (.cells [.ae 5 2 aC] .ro))).post c ρ e w'->(CO.ret a H).post c ρ e w':=by
  intro e w' s;cases e with
  |returned v=>obtain⟨ρ',hx,t,u⟩:=s;exact⟨ρ',hx,back _ _ _ t,u⟩
  |panicked G=>exact s.elim
  |outgrown=>exact s.elim
 rcases o c ρ w vs hG F (q _ _ _ m)with⟨o,D⟩|⟨v,w',o,D⟩
 ·exact .inl ⟨o,D.mono post⟩
 grind
def aaB:ax PP II where
 f:=14
 spec X args H d _:=kJ X 100000 args H λargs' H'=>X.ag (uI (H'.get 0)) (match args' with
  |[.agg [.ae nw 3 f,.ae ng 1 g,.int z a,.int z fl,.str nu,.str de,.int z top],.agg cs]=>X.ag (ar 3 nw f&&ar 1 ng g) (X.ag (fx ⟨nw,aF f,ng,λj=>cT (g j) 0,a,fl,nu,de,top⟩) (match jJ cs with
   |some x=>X.ag (bE x) (d (.bM [.bool (nk ⟨nw,aF f,ng,λj=>cT (g j) 0,a,fl,nu,de,top⟩ x),.bool (gn ⟨nw,aF f,ng,λj=>cT (g j) 0,a,fl,nu,de,top⟩ x),.int z 0]) H')
   |none=>X.fail))
  |_=>X.fail)
 ok X sem hX args H d kp h:=by
  obtain⟨args',H',b,i⟩:=iy hX _ _ _ _ h;obtain⟨k,b⟩:=hX.ag _ _ b;split at b
  ·rename_i nw f ng g a fl nu de top cs i;obtain⟨k1,k2⟩:=hX.ag _ _ b;obtain⟨l,c⟩:=hX.ag _ _ k2;split at c
   ·rename_i x hx;obtain⟨m,n⟩:=hX.ag _ _ c;have e:=gI hx;subst e;simp only[ba]at k1;have o:=(YW (q:=⟨nw,aF f,ng,λj=>cT (g j) 0,a,fl,nu,de,top⟩) (x:=x) (sg k1.1) (vN k1.2) l m).cS (args:=[.agg [.ae nw 3 f,.ae ng 1 g,.int z a,.int z fl,.str nu,.str de,.int z top],.agg (aB x)]) ⟨kO k1.1 k1.2,⟨⟨rfl,rfl⟩,⟨rfl,rfl⟩,⟨rfl,rfl⟩,⟨rfl,rfl⟩,⟨rfl,rfl⟩,⟨rfl,rfl⟩,⟨rfl,rfl⟩,⟨rfl,rfl⟩,⟨rfl,rfl⟩,⟨rfl,rfl⟩,trivial⟩,trivial⟩;exact⟨.ret _ H',n,(o.I5 k (λ_=>rfl) λ_=>rfl).pO i⟩
   ·exact absurd c hX.fail
  ·exact absurd b hX.fail
end
end Go.Sx
