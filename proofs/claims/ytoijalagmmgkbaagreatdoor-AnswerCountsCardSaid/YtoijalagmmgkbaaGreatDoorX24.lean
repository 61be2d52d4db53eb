/- The proof of a statement of the seat, part 24. -/
import Derived.Test.YtoijalagmmgkbaaGreatDoorX23
import Derived.Test.YtoijalagmmgkbaaGreatDoorX15
import Derived.Test.YtoijalagmmgkbaaGreatDoorX08
set_option linter.all false
set_option linter.defProp false
set_option maxRecDepth 1000000
namespace Go.Sx
open Go
open Decidable renaming decide->M
open Int renaming ofNat->z,sub_zero->m_
open Go.IntKind renaming i64->a_
open List renaming range->b_,mem_filter->k_
open Tr renaming ofList->c_
open AV renaming bool->d_,ab->f_,int->i_,bK->l_
open _root_.Array renaming getElem?_setIfInBounds->e_,toList_filter->g_
noncomputable section
def gJ(x:ay)(f d:Int):Int:=if f=1 then x.t else if f=2 then x.v else if f=3 then x.w else if f=4 then x.o else if f=5 then x.p else if f=6 then x.d else if f=7 then x.b else if f=8 then d else 0
def Ub(x:ay)(f d:Int):af PP II 81 [.agg (aF x),.int a_ f,.int a_ d] (AH.blank 12) (.ret (.int a_ (gJ x f d)) (AH.blank 12)):=by
 refine bY (ks:=[]) (T:=[]) (λσ=>⟨rfl,rfl⟩) ?_
 rw[Ua]
 unfold gJ
 refine Zg (λh=>by rw[if_pos h]) λa=>?_
 rw[if_neg a]
 refine Zg (λh=>by rw[if_pos h]) λa=>?_
 rw[if_neg a]
 refine Zg (λh=>by rw[if_pos h]) λa=>?_
 rw[if_neg a]
 refine Zg (λh=>by rw[if_pos h]) λa=>?_
 rw[if_neg a]
 refine Zg (λh=>by rw[if_pos h]) λa=>?_
 rw[if_neg a]
 refine Zg (λh=>by rw[if_pos h]) λa=>?_
 rw[if_neg a]
 refine Zg (λh=>by rw[if_pos h]) λa=>?_
 rw[if_neg a]
 refine Zg (λh=>by rw[if_pos h]) λa=>?_
 rw[if_neg a]
def jr:aC PP II:=aC.pure 81
 (λX args a=>match args with
  |[.agg cs,.int a_ f,.int a_ d]=>match iV cs with
   |some x=>a (.int a_ (gJ x f d))
   |none=>X.fail
  |_=>X.fail)
 λX sem hX args a h=>by
  split at h
  ·rename_i cs f d
   split at h
   ·rename_i x hx
    have e:=fK hx
    subst e
    exact⟨_,h,λ_=>rfl,λ_=>rfl,Ub x f d⟩
   ·exact zR
  ·exact zR
def Jh(b:Bool):GE:=.cond b (.one (.r {t:=c_ [(4,.bool true)],nt:=35,H:=AH.blank 14,df:=[]})) (.one (.x 0 {t:=.e,nt:=35,H:=AH.blank 14,df:=[]}))
def aA(j:Nat):List AV:=match j with|0=>[.str [],.aB]|1=>[.str [61],.fn 331 [] []]|2=>[.str [33,61],.fn 332 [] []]|3=>[.str [60],.fn 333 [] []]|_=>[.str [62,61],.fn 334 [] []]
def lS:List (AV×AV):=(.any,.any)::[(.int a_ 1,.agg [.fn 335 [] []]),(.int a_ 2,.agg [.fn 337 [] []]),(.int a_ 3,.agg [.fn 339 [] []]),(.int a_ 4,.agg [.fn 340 [] []]),(.int a_ 5,.agg [.fn 341 [] []])]
section
theorem uE{P:Program}{I:ba}{ι:Type}{n0:Nat}{J:ι->Prop}{S:ι->St}{E:ι->aQ}{K:ι->Nat}{c:Code}{ir:Bool}(u:I.G<=n0)
  (h:∀i,J i->∀ro n b ρ a w,(ir=false->ro=Option.none)->b.G=I.G->cA b ρ (S i) a w->c.wpIn (WF ro) n P (λx a w=> ∃e,Round n0 J S E K i e/\e.post b ρ x a w) a w):
  ∀m i,J i->K i<m->∀t,t= .inLoop c∨t= .code (.loop c)->∀ro n b ρ a w,(ir=false->ro=Option.none)->b.G=I.G->(∀l,b.E l->l<n0)->cA b ρ (S i) a w->fG (WF ro) n P t ((E i).kx n0 b ρ) a w:=by
 intro m
 induction m with
 |zero=>omega
 |succ m L=>
  intro i N hi t ht ro n b ρ a w k hG o Q
  refine mB t ht ?_
  refine wpIn_mono (h i N ro n b ρ a w k hG Q) λx a1 R d=>?_
  obtain⟨e,q,d⟩:=d
  have f:b.G<=n0:=by rw[hG];exact u
  cases e with
  |n s=>
   cases x with
   |normal=>
    obtain⟨T,hx,y⟩:=d
    obtain⟨j,C,W,D,F⟩:=q
    obtain⟨H,U,V⟩:=y.view D f o
    have:=L j C O (.inLoop c) (.inl A) ro n b H a1 R k hG o V
    rw[F]at this
    exact this.mono λx a w d=>aQ.ja ((iU.of hx).trans U) d
   |_=>exact d.elim
  |x i s=>
   cases x with
   |exit id=>exact aQ.jk q f o (aQ.ji d)
   |_=>exact d.elim
  |g i s=>
   cases x with
   |goto id=>exact aQ.jk q f o (aQ.ji d)
   |_=>exact d.elim
  |r s=>
   cases x with
   |ret=>exact aQ.jk q f o (aQ.ji d)
   |_=>exact d.elim
  |p v s=>simp only[Round,aQ.Le]at q
theorem wF{P I ι s J S E}(k){c ir}{i:ι}(d:I.G<=s.H.n)(o:J i)(start:St.Le s.H.n s (S i))
  (f:∀i,J i->∀ro n b ρ a w,(ir=false->ro=Option.none)->b.G=I.G->cA b ρ (S i) a w->c.wpIn (WF ro) n P (λx a w=> ∃e,Round s.H.n J S E k i e/\e.post b ρ x a w) a w):ew P I ir (.code (.loop c)) s (E i):=by
 intro ro n b ρ a w g hG h
 have m:∀l,b.E l->l<s.H.n:=λl hl=>(h.heap.env l hl).1
 obtain⟨j,p,q⟩:=h.view start (by rw[hG];exact d) m
 have:=uE d f (k i+1) i o (Nat.lt_succ_self _) _ (.inr A) ro n b j a w g hG m q
 exact this.mono λx a w r=>aQ.nG h.heap A (aQ.ja p r)
section
variable {P:Program} {I:ba} (hI:I.Ok P)
def lA(ks:List (aC P I))(a:gy Prop)(fuel:Nat)(ir:Bool)(ops:Array Oper)(b:Oper)(y:Code)(k:KS Prop)(s:St):Prop :=
 l4 RI.jY I (nB RI.jY I (known RI.jY ks) (uA ks a fuel)) (roundOf RI.jY (uA ks a fuel)) ops {k with n:=λc=>uA ks a fuel ir (.code y) c k} [b] s
include hI in
theorem tY{ks:List (aC P I)}{H:gy Prop}(C:eR P I id H){fuel:Nat}{ir:Bool}{ops:Array Oper}{K D:Oper}(q:ops= #[K,D]){y:Code}{k:KS Prop}{s:St}(h:lA ks H fuel ir ops D y k s):
  ∃e:aQ,e.sem id k/\∀ro n c ρ a w (Q:Exit->Act->World->Prop),(ir=false->ro=Option.none)->c.G=I.G->cA c ρ s a w->(∀x a' w',e.post c ρ x a' w'->Q x a' w')->wpOpsIn (WF ro) n P ops (Exit.then (y.wpIn (WF ro) n P Q) Q) [1] a w:=by
 have d:=nH hI ks C fuel
 have m:=pk RI.dJ hI (vU RI.dJ ks) d
 have j:=vJ RI.dJ (P:=P) (I:=I) d
 obtain⟨J,t,o⟩:=vR RI.dJ hI m j [D] 1 s (by rw[q];rfl) h
 have o:∀ro n c ρ a w (Q:Exit->Act->World->Prop),c.G=I.G->cA c ρ s a w->(∀x a' w',J.post c ρ x a' w'->Q x a' w')->wpOpsIn (WF ro) n P ops Q [1] a w:=o
 cases J with
 |n s1=>
  obtain⟨L,N,O⟩:=d _ _ _ _ t
  refine⟨L,N,λro n c ρ a w Q f hG l hQ=>o ro n c ρ a w _ hG l λx a1 u b=>?_⟩
  cases x with
  |normal=>
   obtain⟨E,hx,F⟩:=b
   exact wpIn_mono (O ro n c E a1 u f hG F) λx a2 R b=>hQ _ _ _ (aQ.gO hx b)
  |_=>exact b.elim
 |x i s1=>
  refine⟨.x i s1,t,λro n c ρ a w Q f hG l hQ=>o ro n c ρ a w _ hG l λx a1 u b=>?_⟩
  cases x with
  |exit id=>exact hQ _ _ _ b
  |_=>exact b.elim
 |g i s1=>
  refine⟨.g i s1,t,λro n c ρ a w Q f hG l hQ=>o ro n c ρ a w _ hG l λx a1 u b=>?_⟩
  cases x with
  |goto id=>exact hQ _ _ _ b
  |_=>exact b.elim
 |r s1=>
  refine⟨.r s1,t,λro n c ρ a w Q f hG l hQ=>o ro n c ρ a w _ hG l λx a1 u b=>?_⟩
  cases x with
  |ret=>exact hQ _ _ _ b
  |_=>exact b.elim
 |p v s1=>
  refine⟨.p v s1,t,λro n c ρ a w Q f hG l hQ=>o ro n c ρ a w _ hG l λx a1 u b=>?_⟩
  cases x with
  |panic S=>exact hQ _ _ _ b
  |_=>exact b.elim
def uX(a:Oper)(s:St):St:=s.put a.dst (.bK [.bool false])
def AM(a:Oper)(b l n:Nat)(f:Nat->Int)(S:List Nat)(s:St)(j:Nat):St:=(s.heap (s.H.set b (.dX l n (j::S)))).put a.dst (.bK [.bool true,.int a_ (f j),.bool true])
include hI in
theorem Fc{ks:List (aC P I)}{V:gy Prop}(F:eR P I id V){fuel:Nat}{ir:Bool}{id:Nat}{ops:Array Oper}{g W:Oper}(h:ops= #[g,W]){it:Operand}(u:g.op= .next it false)(hg:g.guard=Option.none){y:Code}{k:KS Prop}{kj:Nat->KS Prop}{G:aQ->Prop}(hk:∀e:aQ,e.sem _root_.id k->G e)(X:∀j (e:aQ),e.sem _root_.id (kj j)->G e){s:St}
  {D l n:Nat} {f:Nat->Int} {S:List Nat} (Y:s.ev I.G it= .ptr D 0 0 0) (hi:s.H.get D= .dX l n S) (hl:s.H.get l= .iy n f)
  (J:(∀j,j<n->j∈S)->lA ks V fuel ir ops W y k (uX g s)) (Z:∀j,j<n->j∉S->lA ks V fuel ir ops W y (kj j) (AM g D l n f S s j))
  (ro:Option Nat) (nn:Nat) (c:fw) (ρ:Env) (a:Act) (w:World) (K:ir=false->ro=Option.none) (hG:c.G=I.G) (v:cA c ρ s a w):
  (Code.seq (.region id ops false) y).wpIn (WF ro) nn P (λx a w=> ∃e:aQ,G e/\e.post c ρ x a w) a w:=by
 have C:=v.ev hG it
 rw[Y]at C
 simp only[VR]at C
 obtain⟨r,R',L,C⟩:=C
 have O:=v.heap.dF D
 rw[hi,L]at O
 obtain⟨b,N,m,d,e1,e2,e3⟩:=O
 cases e1
 have Q:=v.heap.dF l
 rw[hl,e2]at Q
 obtain⟨b2,N2,f1,f2⟩:=Q
 cases f1
 simp only[Nat.zero_mul,Nat.zero_add]at C
 have hd:∀c,g.op≠ .defer c:=by intro c;rw[u];simp
 have R:∀x∈(dM n f).toArray.toList,x.born<n:=by
  intro x hx
  obtain⟨i,hi,rfl⟩:=List.mem_map.1 hx
  exact List.mem_range.1 hi
 refine wpIn_seq (wpIn_region ?_)
 have ad:b_ ops.size=[0,1]:=by rw[h];rfl
 rw[ad]
 refine oq (o:=g) (by rw[h];rfl) (by simp[Region.wanted,hg]) ⟨iA,?_⟩
 rw[Oper.semAt_eq _ _ _ hd]
 rcases Go.run_next_at (P:=P) w g.type r m n n S.reverse.toArray (dM n f).toArray n e3 f2 R (dw _)with⟨h0,p⟩|⟨x,hx,t,ag,p⟩
 ·have T:∀j,j<n->j∈S:=by
   intro j U
   apply Classical.byContradiction
   intro q
   have h1:({key:=.int a_ (f j),val:=.bool true,born:=j}:MapEntry)∈(leftOf (dM n f).toArray S.reverse.toArray).toList:=by
    simp only[leftOf,g_,k_]
    exact⟨vB U,by simpa using q⟩
   have h2:=Array.eq_empty_of_size_eq_zero h0
   rw[h2]at h1
   simp at h1
  obtain⟨e,k1,k2⟩:=tY hI F h (J T)
  have e4:(execOp a.eval g).run P w= .ok (.value (.tuple #[.bool false])) w:=by
   simp only[execOp,u,C,Sem.run_bind,p,Result.andThen_ok,Sem.run_pure]
  rw[e4,Oper.uponIn_value]
  have hs:cA c ρ (uX g s) (a.put g.dst (.tuple #[.bool false])) w :=
   v.put (Ext.refl ρ) v.heap (by simp only[VR];exact⟨[.bool false],rfl,aU.aL.2 ⟨zB,zH⟩⟩) g.dst
  exact k2 ro nn c ρ _ w _ K hG hs λx a1 t hp=>⟨e,hk e k1,hp⟩
 ·simp only[leftOf,g_,k_]at hx
  obtain⟨ap,a6⟩:=hx
  obtain⟨j,U,rfl⟩:=List.mem_map.1 ap
  have U:=List.mem_range.1 U
  have q:j∉S:=by simpa using a6
  obtain⟨e,k1,k2⟩:=tY hI F h (Z j U q)
  have e4:(execOp a.eval g).run P w= .ok (.value (.tuple #[.bool true,.int a_ (f j),.bool true])) (ChangeMaps.setBlock t r (.mapIter (some m) n (S.reverse.toArray.push j) n)):=by
   simp only[execOp,u,C,Sem.run_bind,p,Result.andThen_ok,Sem.run_pure]
  rw[e4,Oper.uponIn_value]
  have a7:r<w.heap.size:=(Array.getElem?_eq_some_iff.1 e3).1
  have E:t.heap=w.heap/\t.os=w.os/\t.output=w.output/\t.tape=w.tape:=by rcases ag with rfl|rfl<;>exact⟨rfl,rfl,rfl,rfl⟩
  have a8:Rel c ρ (s.H.set D (.dX l n (j::S))) (ChangeMaps.setBlock t r (.mapIter (some m) n (S.reverse.toArray.push j) n)):=by
   refine v.heap.fC _ (by rw[hi];rfl) L (λi q=>?_) ?_ E.2.1 E.2.2.1 E.2.2.2 ?_
   ·simp only[ChangeMaps.setBlock,E.1]
    rw[e_,if_neg (λe=>q e.symm)]
   ·simp only[ChangeMaps.setBlock,E.1]
    simp
   ·refine⟨r,_,m,d,rfl,e2,?_⟩
    simp only[ChangeMaps.setBlock,E.1]
    rw[e_,if_pos A,if_pos a7]
    simp
  have hs:cA c ρ (AM g D l n f S s j) (a.put g.dst (.tuple #[.bool true,.int a_ (f j),.bool true])) (ChangeMaps.setBlock t r (.mapIter (some m) n (S.reverse.toArray.push j) n)):=
   v.put (Ext.refl ρ) a8 (by simp only[VR];exact⟨[.bool true,.int a_ (f j),.bool true],rfl,aU.aL.2 ⟨zB,aU.aL.2 ⟨zB,aU.aL.2 ⟨zB,zH⟩⟩⟩⟩) g.dst
  exact k2 ro nn c ρ _ _ _ K hG hs λx a1 t hp=>⟨e,X j e k1,hp⟩
theorem aE.walk(hI:I.Ok P)(ks:List (aC P I)){D:gy Prop}(F:eR P I id D)(fuel:Nat){ι:Type}{c:Code}{ir:Bool}{L:Nat}{o t:Oper}{y:Code}(X:c= .seq (.region L #[o,t] false) y){it:Operand}(N:o.op= .next it false)(Z:o.guard=Option.none)
  (n0:Nat) (J:ι->Prop) (S:ι->St) (E:ι->GE) (q:ι->Nat) (m:ι->Nat->ι) (O:ι) (R l:Nat) (n:ι->Nat) (f:ι->Nat->Int) (d:ι->List Nat)
  (ad:Nat.ble I.G n0=true) (hJ:J O) (T:∀i,J i->(S i).ev I.G it= .ptr R 0 0 0/\(S i).H.get R= .dX l (n i) (d i)/\(S i).H.get l= .iy (n i) (f i))
  (u:∀i,J i->(∀j,j<n i->j∈d i)->lA ks D fuel ir #[o,t] t y (tP n0 S E (λi=>i) False i) (uX o (S i)))
  (U:∀i,J i->∀j,j<n i->j∉d i->lA ks D fuel ir #[o,t] t y (tP n0 S E (λi=>m i j) (J (m i j)/\q (m i j)<q i/\(E (m i j)).pick=(E i).pick) i) (AM o R l (n i) (f i) (d i) (S i) j)):
  aE P I ir c n0 (S O) (E O) where
 h s0 V hs:=by
  subst V
  refine wF (S:=S) (E:=λi=>(E i).pick) (J:=J) q ZD hJ hs λi hi ro nn cx ρ a w W hG hr=>?_
  obtain⟨h1,h2,h3⟩:=T i hi
  rw[X]
  have mono:∀(m:ι->ι)(Q:Prop),(Q->J (m i)/\q (m i)<q i/\(E (m i)).pick=(E i).pick)->∀e:aQ,e.sem id (tP s0.H.n S E m Q i)->Round s0.H.n J S (λi=>(E i).pick) q i e:=by
   intro m Q hQ e C
   cases e with
   |n s=>
    obtain⟨k1,k2⟩:=mF.ok (K:=Q) C
    obtain⟨k3,k4,k5⟩:=hQ k2
    exact⟨m i,k3,k4,k1,k5⟩
   |x b s=>exact GE.fg (g:=E i) C
   |g b s=>exact GE.fg (g:=E i) C
   |r s=>exact GE.fg (g:=E i) C
   |p v s=>exact C.elim
  exact Fc hI F A N Z Y (λj=>Y) h1 h2 h3 (u i hi) (U i hi) ro nn cx ρ a w W hG hr
end
end
def HO:AH:={n:=12,t:=c_ [(0,.cells [.ab 5 2 aA] .ro)]}
abbrev ko(ks:List (aC PP II))(T:lI)(f:FuncId)(args:List AV)(Q:AV->Prop):Prop :=
 jE ks (mG PP II T) 1000 f args HO (λa H=>qC RI.jY 100000 a H λa' H2=>B (Nat.ble 12 H2.n) (H2.get 0= .cells [.ab 5 2 aA] .ro/\Q a')) (λ_ _=>False)
def Nl:Code->Code
 | .seq _ y=>y
 |_=> .skip
def Qy:Code->Array Oper
 | .seq (.region _ ops _) _=>ops
 |_=> #[]
def Uc:Code->Nat
 | .seq (.region id _ _) _=>id
 |_=>0
def Ud:Oper:={dst:=Option.none,op:=.entry (.tmp 0),type:=0,pos := "",after := #[],guard:=Option.none}
def oper(c:Code)(i:Nat):Oper:=match(Qy c)[i]? with|some o=>o|none=>Ud
abbrev YV{ι:Type}(ks:List (aC PP II))(T:lI)(f key n0:Nat)(S:ι->St)(E:ι->GE)(i:ι):Prop :=
 lA ks (mG PP II T) 1000 false #[oper (aD II f key) 0,oper (aD II f key) 1] (oper (aD II f key) 1) (Nl (aD II f key)) (tP n0 S E (λi=>i) False i) (uX (oper (aD II f key) 0) (S i))
abbrev YW{ι:Type}(ks:List (aC PP II))(T:lI)(f key n0:Nat)(S:ι->St)(E:ι->GE)(b:ι->ι)(Q:Prop)(i:ι)(c l n:Nat)(K:Nat->Int)(a:List Nat)(j:Nat):Prop :=
 lA ks (mG PP II T) 1000 false #[oper (aD II f key) 0,oper (aD II f key) 1] (oper (aD II f key) 1) (Nl (aD II f key)) (tP n0 S E b Q i) (AM (oper (aD II f key) 0) c l n K a (S i) j)
def WT(q:Query)(x:ay)(c p:Int->Bool)(lo hi:Int->Int)(n:Int->Nat)(K:Int->Nat->Int)(i:Int):St:={t:=c_ [(2,.ptr 12 0 0 0),(3,.ptr 13 0 0 0),(7,.bool (c i)),(8,.bool (p i)),(9,.int a_ (lo i)),(10,.int a_ (hi i)),(11,.map (some 20)),(31,.ab q.nw 3 (au q.C)),(32,.int a_ q.nw),(33,.int a_ i)],nt:=124,H:={n:=21,t:=c_ [(0,.cells [.ab 5 2 aA] .ro),(12,.cells (aY q) (.ty 32)),(13,.cells (aF x) (.ty 48)),(20,.iy (n i) (K i))]},df:=[]}
def WU(x:ay)(c p:Bool)(lo hi:Int)(n:Nat)(K:Nat->Int):GE:=.one (.x 0 {t:=c_ [(3,.ptr 13 0 0 0),(7,.bool c),(8,.bool p),(9,.int a_ lo),(10,.int a_ hi),(11,.map (some 20))],nt:=124,H:={n:=21,t:=c_ [(0,.cells [.ab 5 2 aA] .ro),(13,.cells (aF x) (.ty 48)),(20,.iy n K)]},df:=[]})
def Fe(x:ay)(c p:Bool)(lo hi:Int)(n:Nat)(K:Nat->Int)(left:List Nat->Int)(S:List Nat):St:={t:=c_ [(3,.ptr 13 0 0 0),(7,.bool c),(8,.bool p),(9,.int a_ lo),(10,.int a_ hi),(15,.int a_ (left S)),(97,.ptr 21 0 0 0)],nt:=124,H:={n:=22,t:=c_ [(0,.cells [.ab 5 2 aA] .ro),(13,.cells (aF x) (.ty 48)),(20,.iy n K),(21,.dX 20 n S)]},df:=[]}
def AN(x:ay)(c p:Bool)(left:Int):GE:=.one (.x 3 {t:=c_ [(3,.ptr 13 0 0 0),(7,.bool c),(8,.bool p),(15,.int a_ left)],nt:=124,H:={n:=22,t:=c_ [(0,.cells [.ab 5 2 aA] .ro),(13,.cells (aF x) (.ty 48))]},df:=[]})
def Qz(x)(c p)(lo hi)(n)(K)(left)(a)(S):(YV [] [] 31 24002 22 (Fe x c p lo hi n K left) (λ_=>AN x c p a) S)=(zyI x.t (zyI x.s (zyI x.v (zyI x.w (zyI x.o (zyI x.p (zyI x.d (zyI x.l (zyI x.h (zyI x.b (zyR 5 aA (aH (left S) a (c=c/\p=p/\True))))))))))))):=U
def Ue(x)(c p)(lo hi)(n)(K)(left)(a)(S)(j)(Q):(YW [] [] 31 24002 22 (Fe x c p lo hi n K left) (λ_ => AN x c p a) (λS => j ::S) Q S 21 20 n K S j) = (B (Nat.beq n n && Nat.blt j n) (ah (M (K j >= lo)) (ah (M (K j <= hi)) (B (aN a_ (left S - (1:Int))) (zyN n (j ::S = j ::S /\ zyN n ((∀(i),i < n -> K i = K i) /\ zyI (ay.t x) (zyI (ay.s x) (zyI (ay.v x) (zyI (ay.w x) (zyI (ay.o x) (zyI (ay.p x) (zyI (ay.d x) (zyI (ay.l x) (zyI (ay.h x) (zyI (ay.b x) (zyR (5:Nat) aA (aH (left S - (1:Int)) (left (j ::S)) (c = c /\ zyI lo (p = p /\ zyI hi Q))))))))))))))))) (zyN n (j ::S = j ::
 S /\ zyN n ((∀(i),i < n -> K i = K i) /\ zyI (ay.t x) (zyI (ay.s x) (zyI (ay.v x) (zyI (ay.w x) (zyI (ay.o x) (zyI (ay.p x) (zyI (ay.d x) (zyI (ay.l x) (zyI (ay.h x) (zyI (ay.b x) (zyR (5:Nat) aA (aH (left S) (left (j ::S)) (c = c /\ zyI lo (p = p /\ zyI hi Q))))))))))))))))) (zyN n (j ::S = j ::S /\ zyN n ((∀(i),i < n -> K i = K i) /\ zyI (ay.t x) (zyI (ay.s x) (zyI (ay.v x) (zyI (ay.w x) (zyI (ay.o x) (zyI (ay.p x) (zyI (ay.d x) (zyI (ay.l x) (zyI (ay.h x) (zyI (ay.b x) (zyR (5:Nat) aA (aH (left S) (left (j ::S)) (c = c /\ zyI lo (p = p /\ zyI hi Q)))))))))))))))))) :=
 by kernel_rfl
def CA(q)(x)(c p)(lo hi)(n)(K)(cE N)(F H)(O)(P)(i)(Q):(kr [jr] [] 31 7001 21 (WT q x c p lo hi n K) (λ_=>WU x cE N F H O P) (λi=>i+1) Q i)=(let e:=(∀(f),f<n i->K i f=K (i+1) f);let g:=(aH (lo i) (lo (i+1)) (zyI (z q.nw) (false=p (i+1)/\aH (hi i) (hi (i+1)) Q)));let m:=(B (aN a_ (i+1)) (ax (n i) (n (i+1)) (e/\zyI x.t (zyI x.s (zyI x.v (zyI x.w (zyI x.o (zyI x.p (zyI x.d (zyI x.l (zyI x.h (zyI x.b (zyN q.nw (zyR q.nw (au q.C) (zyN q.ng (zyR q.ng (aR q.G) (zyI q.a (zyI q.fl (zyB q.nu (zyB q.de (zyI q.top (zyR 5 aA (zyN q.nw (zyR q.nw (au q.C) (false=c (i+1)/\zyI (i+1) g)))))))))))))))))))))))));let I:=(zyI x.s (zyI x.v (zyI x.w (zyI x.o (zyI x.p (zyI x.d (zyI x.l (zyI x.h (zyI x.b (zyN q.nw (zyR q.nw (au q.C) (zyN q.ng (zyR q.ng (aR q.G) (zyI q.a (zyI q.fl (zyB q.nu (zyB q.de (zyI q.top (zyR 5 aA (zyN q.nw (zyR q.nw (au q.C) (c i=c (i+1)/\zyI (i+1) (aH (lo i) (lo (i+1)) (zyI (z q.nw) (p i=p (i+1)/\aH (hi i) (hi (i+1)) Q)))))))))))))))))))))))));let j:=(M (q.C i.toNat 1=q.C i.toNat 1));let k:=(M (q.C i.toNat 2=q.C i.toNat 2));let E:=(!decide (gJ x (q.C i.toNat 0) 0=q.C i.toNat 2));let J:=(aH (lo i) (lo (i+1)) (zyI (z q.nw) (M (gJ x (q.C i.toNat 0) 0>=q.C i.toNat 2)=p (i+1)/\aH (hi i) (hi (i+1)) Q)));let L:=(aH (lo i) (lo (i+1)) (zyI (z q.nw) (M (gJ x (q.C i.toNat 0) 0=q.C i.toNat 2)=p (i+1)/\aH (hi i) (hi (i+1)) Q)));let r:=(aH (lo i) (lo (i+1)) (zyI (z q.nw) (M (gJ x (q.C i.toNat 0) 0<q.C i.toNat 2)=p (i+1)/\aH (hi i) (hi (i+1)) Q)));let u:=(aH (lo i) (lo (i+1)) (zyI (z q.nw) (E=p (i+1)/\aH (hi i) (hi (i+1)) Q)));let y:=(B (aN a_ (i+1)) (ax (n i) (n (i+1)) (e/\zyI x.t I)));let D:=(if q.C i.toNat 2>lo i then q.C i.toNat 2 else lo i);(ah (M (i<z q.nw)) (B (M (0<=i)&&M (i<z q.nw)) (ah (!decide (q.C i.toNat 0=8)) (ah (M (q.C i.toNat 1=0)) (B j (B k False)) (ah (M (q.C i.toNat 1=1)) (B j (B k (ah (c i) (ah (p i) (B (aN a_ (i+1)) (ax (n i) (n (i+1)) (e/\zyI x.t (zyI x.s (zyI x.v (zyI x.w (zyI x.o (zyI x.p (zyI x.d (zyI x.l (zyI x.h (zyI x.b (zyN q.nw (zyR q.nw (au q.C) (zyN q.ng (zyR q.ng (aR q.G) (zyI q.a (zyI q.fl (zyB q.nu (zyB q.de (zyI q.top (zyR 5 aA (zyN q.nw (zyR q.nw (au q.C) (M (gJ x (q.C i.toNat 0) 0=q.C i.toNat 2)=c (i+1)/\zyI (i+1) L))))))))))))))))))))))))) (B (aN a_ (i+1)) (ax (n i) (n (i+1)) (e/\zyI x.t (zyI x.s (zyI x.v (zyI x.w (zyI x.o (zyI x.p (zyI x.d (zyI x.l (zyI x.h (zyI x.b (zyN q.nw (zyR q.nw (au q.C) (zyN q.ng (zyR q.ng (aR q.G) (zyI q.a (zyI q.fl (zyB q.nu (zyB q.de (zyI q.top (zyR 5 aA (zyN q.nw (zyR q.nw (au q.C) (M (gJ x (q.C i.toNat 0) 0=q.C i.toNat 2)=c (i+1)/\zyI (i+1) g)))))))))))))))))))))))))) (ah (p i) (B (aN a_ (i+1)) (ax (n i) (n (i+1)) (e/\zyI x.t (zyI x.s (zyI x.v (zyI x.w (zyI x.o (zyI x.p (zyI x.d (zyI x.l (zyI x.h (zyI x.b (zyN q.nw (zyR q.nw (au q.C) (zyN q.ng (zyR q.ng (aR q.G) (zyI q.a (zyI q.fl (zyB q.nu (zyB q.de (zyI q.top (zyR 5 aA (zyN q.nw (zyR q.nw (au q.C) (false=c (i+1)/\zyI (i+1) L))))))))))))))))))))))))) m)))) (ah (M (q.C i.toNat 1=2)) (B j (B k (ah (c i) (ah (p i) (B (aN a_ (i+1)) (ax (n i) (n (i+1)) (e/\zyI x.t (zyI x.s (zyI x.v (zyI x.w (zyI x.o (zyI x.p (zyI x.d (zyI x.l (zyI x.h (zyI x.b (zyN q.nw (zyR q.nw (au q.C) (zyN q.ng (zyR q.ng (aR q.G) (zyI q.a (zyI q.fl (zyB q.nu (zyB q.de (zyI q.top (zyR 5 aA (zyN q.nw (zyR q.nw (au q.C) (E=c (i+1)/\zyI (i+1) u))))))))))))))))))))))))) (B (aN a_ (i+1)) (ax (n i) (n (i+1)) (e/\zyI x.t (zyI x.s (zyI x.v (zyI x.w (zyI x.o (zyI x.p (zyI x.d (zyI x.l (zyI x.h (zyI x.b (zyN q.nw (zyR q.nw (au q.C) (zyN q.ng (zyR q.ng (aR q.G) (zyI q.a (zyI q.fl (zyB q.nu (zyB q.de (zyI q.top (zyR 5 aA (zyN q.nw (zyR q.nw (au q.C) (E=c (i+1)/\zyI (i+1) g)))))))))))))))))))))))))) (ah (p i) (B (aN a_ (i+1)) (ax (n i) (n (i+1)) (e/\zyI x.t (zyI x.s (zyI x.v (zyI x.w (zyI x.o (zyI x.p (zyI x.d (zyI x.l (zyI x.h (zyI x.b (zyN q.nw (zyR q.nw (au q.C) (zyN q.ng (zyR q.ng (aR q.G) (zyI q.a (zyI q.fl (zyB q.nu (zyB q.de (zyI q.top (zyR 5 aA (zyN q.nw (zyR q.nw (au q.C) (false=c (i+1)/\zyI (i+1) u))))))))))))))))))))))))) m)))) (ah (M (q.C i.toNat 1=3)) (B j (B k (ah (c i) (ah (p i) (B (aN a_ (i+1)) (ax (n i) (n (i+1)) (e/\zyI x.t (zyI x.s (zyI x.v (zyI x.w (zyI x.o (zyI x.p (zyI x.d (zyI x.l (zyI x.h (zyI x.b (zyN q.nw (zyR q.nw (au q.C) (zyN q.ng (zyR q.ng (aR q.G) (zyI q.a (zyI q.fl (zyB q.nu (zyB q.de (zyI q.top (zyR 5 aA (zyN q.nw (zyR q.nw (au q.C) (M (gJ x (q.C i.toNat 0) 0<q.C i.toNat 2)=c (i+1)/\zyI (i+1) r))))))))))))))))))))))))) (B (aN a_ (i+1)) (ax (n i) (n (i+1)) (e/\zyI x.t (zyI x.s (zyI x.v (zyI x.w (zyI x.o (zyI x.p (zyI x.d (zyI x.l (zyI x.h (zyI x.b (zyN q.nw (zyR q.nw (au q.C) (zyN q.ng (zyR q.ng (aR q.G) (zyI q.a (zyI q.fl (zyB q.nu (zyB q.de (zyI q.top (zyR 5 aA (zyN q.nw (zyR q.nw (au q.C) (M (gJ x (q.C i.toNat 0) 0<q.C i.toNat 2)=c (i+1)/\zyI (i+1) g)))))))))))))))))))))))))) (ah (p i) (B (aN a_ (i+1)) (ax (n i) (n (i+1)) (e/\zyI x.t (zyI x.s (zyI x.v (zyI x.w (zyI x.o (zyI x.p (zyI x.d (zyI x.l (zyI x.h (zyI x.b (zyN q.nw (zyR q.nw (au q.C) (zyN q.ng (zyR q.ng (aR q.G) (zyI q.a (zyI q.fl (zyB q.nu (zyB q.de (zyI q.top (zyR 5 aA (zyN q.nw (zyR q.nw (au q.C) (false=c (i+1)/\zyI (i+1) r))))))))))))))))))))))))) m)))) (ah (M (q.C i.toNat 1=4)) (B j (B k (ah (c i) (ah (p i) (B (aN a_ (i+1)) (ax (n i) (n (i+1)) (e/\zyI x.t (zyI x.s (zyI x.v (zyI x.w (zyI x.o (zyI x.p (zyI x.d (zyI x.l (zyI x.h (zyI x.b (zyN q.nw (zyR q.nw (au q.C) (zyN q.ng (zyR q.ng (aR q.G) (zyI q.a (zyI q.fl (zyB q.nu (zyB q.de (zyI q.top (zyR 5 aA (zyN q.nw (zyR q.nw (au q.C) (M (gJ x (q.C i.toNat 0) 0>=q.C i.toNat 2)=c (i+1)/\zyI (i+1) J))))))))))))))))))))))))) (B (aN a_ (i+1)) (ax (n i) (n (i+1)) (e/\zyI x.t (zyI x.s (zyI x.v (zyI x.w (zyI x.o (zyI x.p (zyI x.d (zyI x.l (zyI x.h (zyI x.b (zyN q.nw (zyR q.nw (au q.C) (zyN q.ng (zyR q.ng (aR q.G) (zyI q.a (zyI q.fl (zyB q.nu (zyB q.de (zyI q.top (zyR 5 aA (zyN q.nw (zyR q.nw (au q.C) (M (gJ x (q.C i.toNat 0) 0>=q.C i.toNat 2)=c (i+1)/\zyI (i+1) g)))))))))))))))))))))))))) (ah (p i) (B (aN a_ (i+1)) (ax (n i) (n (i+1)) (e/\zyI x.t (zyI x.s (zyI x.v (zyI x.w (zyI x.o (zyI x.p (zyI x.d (zyI x.l (zyI x.h (zyI x.b (zyN q.nw (zyR q.nw (au q.C) (zyN q.ng (zyR q.ng (aR q.G) (zyI q.a (zyI q.fl (zyB q.nu (zyB q.de (zyI q.top (zyR 5 aA (zyN q.nw (zyR q.nw (au q.C) (false=c (i+1)/\zyI (i+1) J))))))))))))))))))))))))) m)))) False))))) (ah (M (q.C i.toNat 1=1)) (B (aN a_ (i+1)) (ax (n i) (n (i+1)) (e/\zyI x.t (zyI x.s (zyI x.v (zyI x.w (zyI x.o (zyI x.p (zyI x.d (zyI x.l (zyI x.h (zyI x.b (zyN q.nw (zyR q.nw (au q.C) (zyN q.ng (zyR q.ng (aR q.G) (zyI q.a (zyI q.fl (zyB q.nu (zyB q.de (zyI q.top (zyR 5 aA (zyN q.nw (zyR q.nw (au q.C) (c i=c (i+1)/\zyI (i+1) (aH D (lo (i+1)) (zyI (z q.nw) (p i=p (i+1)/\aH (if q.C i.toNat 2<hi i then q.C i.toNat 2 else hi i) (hi (i+1)) Q)))))))))))))))))))))))))))) (ah (M (q.C i.toNat 1=2)) (ah (gv (q.C i.toNat 2) (K i) (n i)) y (B (aN a_ (i+1)) (ax (n i+1) (n (i+1)) ((∀(f),f<n i+1->dY (n i) (K i) (q.C i.toNat 2) f=K (i+1) f)/\zyI x.t I)))) (ah (M (q.C i.toNat 1=3)) (B (aN a_ (q.C i.toNat 2-1)) (B (aN a_ (i+1)) (ax (n i) (n (i+1)) (e/\zyI x.t (zyI x.s (zyI x.v (zyI x.w (zyI x.o (zyI x.p (zyI x.d (zyI x.l (zyI x.h (zyI x.b (zyN q.nw (zyR q.nw (au q.C) (zyN q.ng (zyR q.ng (aR q.G) (zyI q.a (zyI q.fl (zyB q.nu (zyB q.de (zyI q.top (zyR 5 aA (zyN q.nw (zyR q.nw (au q.C) (c i=c (i+1)/\zyI (i+1) (aH (lo i) (lo (i+1)) (zyI (z q.nw) (p i=p (i+1)/\aH (if q.C i.toNat 2-1<hi i then q.C i.toNat 2-1 else hi i) (hi (i+1)) Q))))))))))))))))))))))))))))) (ah (M (q.C i.toNat 1=4)) (B (aN a_ (i+1)) (ax (n i) (n (i+1)) (e/\zyI x.t (zyI x.s (zyI x.v (zyI x.w (zyI x.o (zyI x.p (zyI x.d (zyI x.l (zyI x.h (zyI x.b (zyN q.nw (zyR q.nw (au q.C) (zyN q.ng (zyR q.ng (aR q.G) (zyI q.a (zyI q.fl (zyB q.nu (zyB q.de (zyI q.top (zyR 5 aA (zyN q.nw (zyR q.nw (au q.C) (c i=c (i+1)/\zyI (i+1) (aH D (lo (i+1)) (zyI (z q.nw) (p i=p (i+1)/\aH (hi i) (hi (i+1)) Q)))))))))))))))))))))))))))) y)))))) (ax (n i) O ((∀(f),f<n i->K i f=P f)/\zyI x.t (zyI x.s (zyI x.v (zyI x.w (zyI x.o (zyI x.p (zyI x.d (zyI x.l (zyI x.h (zyI x.b (zyR 5 aA (c i=cE/\aH (lo i) F (p i=N/\aH (hi i) H True)))))))))))))))):=U
def Uf(q)(x)(c p)(lo hi)(n)(K)(cE k)(f g)(m)(r)(left)(e)(Q):(ko [lQ,nL] [(7001,21,WT q x c p lo hi n K 0,WU x cE k f g m r),(24002,22,Fe x cE k f g m r left [],AN x cE k e)] 31 [.agg (aY q),.agg (aF x)] Q)=(B (aI 3 q.nw (au q.C)&&aI 1 q.ng (aR q.G)) (B (eU {nw:=q.nw,C:=bG (au q.C),ng:=q.ng,G:=λj=>q.G j,a:=q.a,fl:=q.fl,nu:=q.nu,de:=q.de,top:=q.top}) (ah (!bB x) (ai.cells [f_ 5 2 aA] Access.ro=ai.cells [f_ 5 2 aA] Access.ro/\Q (l_ [d_ false,d_ false,i_ a_ 190])) (aE PP II false (aD II 31 7001) 21 (WT q x c p lo hi n K 0) (WU x cE k f g m r)/\ax 0 (n 0) (zyI x.t (zyI x.s (zyI x.v (zyI x.w (zyI x.o (zyI x.p (zyI x.d (zyI x.l (zyI x.h (zyI x.b (zyN q.nw (zyR q.nw (au q.C) (zyN q.ng (zyR q.ng (aR q.G) (zyI q.a (zyI q.fl (zyB q.nu (zyB q.de (zyI q.top (zyR 5 aA (zyN q.nw (zyR q.nw (au q.C) (true=c 0/\aH x.l (lo 0) (zyI (z q.nw) (true=p 0/\aH x.h (hi 0) (B (aN a_ (g-f)) (B (aN a_ (g-f+1)) (aE PP II false (aD II 31 24002) 22 (Fe x cE k f g m r left []) (AN x cE k e)/\zyN m (([]:List Nat)=[]/\zyN m ((∀(i),i<m->r i=r i)/\zyI x.t (zyI x.s (zyI x.v (zyI x.w (zyI x.o (zyI x.p (zyI x.d (zyI x.l (zyI x.h (zyI x.b (zyR 5 aA (aH (g-f+1) (left []) (cE=cE/\zyI f (k=k/\zyI g (ah cE (B (aN a_ (x.h-x.l)) (B (aN a_ (x.h-x.l+1)) (ah k (ai.cells [f_ 5 2 aA] Access.ro=ai.cells [f_ 5 2 aA] Access.ro/\Q (l_ [d_ (M (e=x.h-x.l+1)),d_ (M (e>0)),i_ a_ 0])) (ai.cells [f_ 5 2 aA] Access.ro=ai.cells [f_ 5 2 aA] Access.ro/\Q (l_ [d_ (M (e=x.h-x.l+1)),d_ false,i_ a_ 0]))))) (ah k (ai.cells [f_ 5 2 aA] Access.ro=ai.cells [f_ 5 2 aA] Access.ro/\Q (l_ [d_ false,d_ (M (e>0)),i_ a_ 0])) (ai.cells [f_ 5 2 aA] Access.ro=ai.cells [f_ 5 2 aA] Access.ro/\Q (l_ [d_ false,d_ false,i_ a_ 0]))))))))))))))))))))))))))))))))))))))))))))))))))):=U
def Nn(o v N:Int):Bool:=M ((o=1/\v=N)∨(o=2/\v≠N)∨(o=3/\v<N)∨(o=4/\N<=v))
structure QA (b:Query) (x:ay) (a:Nat) (c c':Bool) (lo lo' hi hi':Int) (n n':Nat) (K K':Nat->Int):Prop where
 mc:c'=(c&&(M (b.C a 0=8)||Nn (b.C a 1) (gJ x (b.C a 0) 0) (b.C a 2)))
 ml:lo'=if b.C a 0=8/\(b.C a 1=1∨b.C a 1=4)then(if b.C a 2>lo then b.C a 2 else lo)else lo
 mh:hi'=if b.C a 0=8/\b.C a 1=1 then(if b.C a 2<hi then b.C a 2 else hi)else if b.C a 0=8/\b.C a 1=3 then(if b.C a 2-1<hi then b.C a 2-1 else hi)else hi
 mn:n'=if b.C a 0=8/\b.C a 1=2/\gv (b.C a 2) K n=false then n+1 else n
 mK:K'=if b.C a 0=8/\b.C a 1=2/\gv (b.C a 2) K n=false then dY n K (b.C a 2)else K
def aZ:an 5 aA aA:=Zj λσ j=>by
 match j with
 |0=>exact⟨rfl,trivial,trivial⟩
 |1=>exact⟨rfl,⟨rfl,trivial,trivial⟩,trivial⟩
 |2=>exact⟨rfl,⟨rfl,trivial,trivial⟩,trivial⟩
 |3=>exact⟨rfl,⟨rfl,trivial,trivial⟩,trivial⟩
 |_+4=>exact⟨rfl,⟨rfl,trivial,trivial⟩,trivial⟩
def Ji(q)(x)(c)(lo hi)(n)(K)(cE)(J L)(nE)(KE)(i)(j:Nat)(R:i=(j:Int))(hn:q.nw<=6)(hj:j<q.nw)
  (h8:1<=q.C j 1/\q.C j 1<=4) (hN : -1<=q.C j 2/\q.C j 2<=4398046511104) (hm:QA q x j (c i) (c (i+1)) (lo i) (lo (i+1)) (hi i) (hi (i+1)) (n i) (n (i+1)) (K i) (K (i+1))) (Q) (hQ:Q):
  kr [jr] [] 31 7001 21 (WT q x c c lo hi n K) (λ_=>WU x cE cE J L nE KE) (λi=>i+1) Q i:=by
 rw[CA]
 have H:Int.toNat i=j:=O
 have en:z q.nw=(q.nw:Int):=rfl
 rw[H]
 obtain⟨mc,ml,mh,mn,mK⟩:=hm
 have hr:(M (0<=i)&&M (i<z q.nw))=true:=by simp only[bf,bn];omega
 have S:aN a_ (i+1)=true:=aq O O
 have T:aN a_ (q.C j 2-1)=true:=aq O O
 have U:i<z q.nw:=O
 clear R H
 generalize hA:q.C j 0=f at*
 generalize hO:q.C j 1=o at*
 generalize ad:q.C j 2=N at*
 generalize hV:gJ x f 0=V at*
 have g:∀(W X:Bool)(D E:Int)(I:Nat)(Z:Nat->Int),W=c (i+1)->X=c (i+1)->D=lo (i+1)->E=hi (i+1)->I=n (i+1)->Z=K (i+1)->
   B (aN a_ (i+1)) (ax I (n (i+1)) ((∀a:Nat,a<I->Z a=K (i+1) a)/\aH x.t x.t (aH x.s x.s (aH x.v x.v (aH x.w x.w (aH x.o x.o (aH x.p x.p (aH x.d x.d (aH x.l x.l (aH x.h x.h (aH x.b x.b (ax q.nw q.nw (an q.nw (au q.C) (au q.C)/\ax q.ng q.ng (an q.ng (aR q.G) (aR q.G)/\aH q.a q.a (aH q.fl q.fl (bI q.nu q.nu (bI q.de q.de (aH q.top q.top (an 5 aA aA/\ax q.nw q.nw (an q.nw (au q.C) (au q.C)/\W=c (i+1)/\aH (i+1) (i+1) (aH D (lo (i+1)) (aH (z q.nw) (z q.nw) (X=c (i+1)/\aH E (hi (i+1)) Q))))))))))))))))))))))):=by
  intro W X D E I Z a1 a2 a3 a4 a5 a6
  exact Ze S (YG a5 ⟨λa _=>by rw[a6],Zf A (Zf A (Zf A (Zf A (Zf A (Zf A (Zf A (Zf A (Zf A (Zf A (YG A ⟨bC _ _,YG A ⟨bO _ _,Zf A (Zf A (Zi A (Zi A (Zf A ⟨aZ,YG A ⟨bC _ _,a1,Zf A (Zf a3 (Zf A ⟨a2,Zf a4 hQ⟩))⟩⟩))))⟩⟩))))))))))⟩)
 refine Zg (λ_=>?_) λh=>absurd U h
 refine cC _ _ hr ?_
 refine Zl (λh=>?_) λh=>?_
 ·have u:∀{P:Prop},¬ (f=8/\P):=λe=>h e.1
  rw[if_neg u]at ml
  rw[if_neg u,if_neg u]at mh
  rw[if_neg u]at mn mK
  rw[nZ h,Bool.false_or]at mc
  have k:∀b,Nn o V N=b->c i=true->b=c (i+1):=ZD
  have no:c i=false->false=c (i+1):=λe=>by rw[mc,e];rfl
  have y:∀(p:Prop) [Decidable p],((o=1/\V=N)∨(o=2/\V≠N)∨(o=3/\V<N)∨(o=4/\N<=V)↔p)->Nn o V N=decide p:=λp _ e=>decide_eq_decide.2 e
  refine Zg O λ_=>?_
  refine Zg (λe=>?_) λH=>?_
  ·refine cC _ _ (bW A) (cC _ _ (bW A) ?_)
   have m:=y (V=N) O
   exact Zh (λd=>Zh (λ_=>g _ _ _ _ _ _ (k _ m d) (k _ m d) ml.symm mh.symm mn.symm mK.symm) λF=>Y) λd=>Zh (λF=>Y) λ_=>g _ _ _ _ _ _ (no d) (no d) ml.symm mh.symm mn.symm mK.symm
  refine Zg (λe=>?_) λe2=>?_
  ·refine cC _ _ (bW A) (cC _ _ (bW A) ?_)
   have m:Nn o V N=!decide (V=N):=by rw[y (¬ V=N) O,decide_not]
   exact Zh (λd=>Zh (λ_=>g _ _ _ _ _ _ (k _ m d) (k _ m d) ml.symm mh.symm mn.symm mK.symm) λF=>Y) λd=>Zh (λF=>Y) λ_=>g _ _ _ _ _ _ (no d) (no d) ml.symm mh.symm mn.symm mK.symm
  refine Zg (λe=>?_) λe3=>?_
  ·refine cC _ _ (bW A) (cC _ _ (bW A) ?_)
   have m:=y (V<N) O
   exact Zh (λd=>Zh (λ_=>g _ _ _ _ _ _ (k _ m d) (k _ m d) ml.symm mh.symm mn.symm mK.symm) λF=>Y) λd=>Zh (λF=>Y) λ_=>g _ _ _ _ _ _ (no d) (no d) ml.symm mh.symm mn.symm mK.symm
  refine Zg (λe=>?_) O
  ·refine cC _ _ (bW A) (cC _ _ (bW A) ?_)
   have m:=y (V>=N) O
   exact Zh (λd=>Zh (λ_=>g _ _ _ _ _ _ (k _ m d) (k _ m d) ml.symm mh.symm mn.symm mK.symm) λF=>Y) λd=>Zh (λF=>Y) λ_=>g _ _ _ _ _ _ (no d) (no d) ml.symm mh.symm mn.symm mK.symm
 ·have r:c i=c (i+1):=by rw[mc,bW h,Bool.true_or,Bool.and_true]
  refine Zg (λe=>?_) λH=>?_
  ·rw[if_pos ⟨h,.inl e⟩]at ml
   rw[if_pos ⟨h,e⟩]at mh
   rw[if_neg O]at mn mK
   exact g _ _ _ _ _ _ r r ml.symm mh.symm mn.symm mK.symm
  refine Zg (λe=>?_) λe2=>?_
  ·rw[if_neg O]at ml
   rw[if_neg O,if_neg O]at mh
   refine Zh (λd=>?_) λd=>?_
   ·rw[d]at mn mK
    rw[if_neg zA]at mn mK
    exact g _ _ _ _ _ _ r r ml.symm mh.symm mn.symm mK.symm
   ·rw[if_pos ⟨h,e,d⟩]at mn mK
    exact g _ _ _ _ _ _ r r ml.symm mh.symm mn.symm mK.symm
  refine Zg (λe=>?_) λe3=>?_
  ·rw[if_neg O]at ml
   rw[if_neg O,if_pos ⟨h,e⟩]at mh
   rw[if_neg O]at mn mK
   exact cC _ _ T (g _ _ _ _ _ _ r r ml.symm mh.symm mn.symm mK.symm)
  refine Zg (λe=>?_) O
  ·rw[if_pos ⟨h,.inr e⟩]at ml
   rw[if_neg O,if_neg O]at mh
   rw[if_neg O]at mn mK
   exact g _ _ _ _ _ _ r r ml.symm mh.symm mn.symm mK.symm
structure Ug where
 c:Bool
 lo:Int
 hi:Int
 n:Nat
 K:Nat->Int
def j9(q:Query)(x:ay)(j:Nat)(s:Ug):Ug where
 c:=s.c&&(M (q.C j 0=8)||Nn (q.C j 1) (gJ x (q.C j 0) 0) (q.C j 2))
 lo:=if q.C j 0=8/\(q.C j 1=1∨q.C j 1=4)then(if q.C j 2>s.lo then q.C j 2 else s.lo)else s.lo
 hi:=if q.C j 0=8/\q.C j 1=1 then(if q.C j 2<s.hi then q.C j 2 else s.hi)else if q.C j 0=8/\q.C j 1=3 then(if q.C j 2-1<s.hi then q.C j 2-1 else s.hi)else s.hi
 n:=if q.C j 0=8/\q.C j 1=2/\gv (q.C j 2) s.K s.n=false then s.n+1 else s.n
 K:=if q.C j 0=8/\q.C j 1=2/\gv (q.C j 2) s.K s.n=false then dY s.n s.K (q.C j 2)else s.K
def mf(q:Query)(x:ay):Nat->Ug
 |0=>⟨true,x.l,x.h,0,λ_=>0⟩
 |j+1=>j9 q x j (mf q x j)
def dC(q:Query)(x:ay):Ug:=mf q x q.nw
def rL(lo hi:Int)(K:Nat->Int)(S:List Nat):Nat:=(S.filter λj=>M (lo<=K j)&&M (K j<=hi)).length
def fy(s:Ug)(S:List Nat):Int:=s.hi-s.lo+1-rL s.lo s.hi s.K S
def lT(q:Query)(x:ay):Int:=fy (dC q x) (b_ (dC q x).n)
def jA(q:Query)(x:ay):Bool:=(dC q x).c&&M (lT q x=x.h-x.l+1)
def gk(q:Query)(x:ay):Bool:=(dC q x).c&&M (lT q x>0)
def fQ{q}(h:eU q=true):q.nw<=6/\∀j,j<q.nw->(1<=q.C j 0/\q.C j 0<=8)/\(1<=q.C j 1/\q.C j 1<=4)/\(-1<=q.C j 2/\q.C j 2<=4398046511104):=by
 unfold eU at h
 simp only[bf,bn]at h
 exact⟨h.1.1.1.1.1,λj a=>yO h.1.1.1.2 a⟩
def wG{q x}(a:eU q=true)(hl:0<=x.l/\x.l<=4398046511104)(b:0<=x.h/\x.h<=4398046511104):∀j,j<=q.nw->(-2<=(mf q x j).lo/\(mf q x j).lo<=4398046511104)/\(-2<=(mf q x j).hi/\(mf q x j).hi<=4398046511104)/\(mf q x j).n<=j
 |0,_=>⟨⟨by show -2<=x.l;omega,hl.2⟩,⟨by show -2<=x.h;omega,b.2⟩,dw _⟩
 |j+1,c=>by
  obtain⟨d,e,f⟩:=wG a hl b j O
  obtain⟨_,_,k⟩:=(fQ a).2 j O
  show(-2<=(j9 q x j (mf q x j)).lo/\(j9 q x j (mf q x j)).lo<=4398046511104)/\(-2<=(j9 q x j (mf q x j)).hi/\(j9 q x j (mf q x j)).hi<=4398046511104)/\(j9 q x j (mf q x j)).n<=j+1
  simp only[j9]
  grind
def mS(q:Query)(x:ay)(i:Int):St:=WT q x (λi=>(mf q x i.toNat).c) (λi=>(mf q x i.toNat).c) (λi=>(mf q x i.toNat).lo) (λi=>(mf q x i.toNat).hi) (λi=>(mf q x i.toNat).n) (λi=>(mf q x i.toNat).K) i
def mE(q:Query)(x:ay):GE:=WU x (dC q x).c (dC q x).c (dC q x).lo (dC q x).hi (dC q x).n (dC q x).K
def No(q)(x)(f:eU q=true):aE PP II false (aD II 31 7001) 21 (mS q x 0) (mE q x):=by
 obtain⟨hn,d⟩:=fQ f
 have key:=aE.of (ι:=Nat) iw [jr] (bm PP II []) 1000 (c:=aD II 31 7001) (ir:=false) 21 (λj=>j<=q.nw) (λj=>mS q x (j:Int)) (λ_=>mE q x) (λj=>q.nw-j) (λj=>j+1) 0 A (Nat.zero_le _) λj e=>?_
 ·exact key
 by_cases a:j<q.nw
 ·have b:((j:Int)).toNat=j:=by omega
  have g:((j:Int)+1).toNat=j+1:=O
  have:=Ji q x (λi=>(mf q x i.toNat).c) (λi=>(mf q x i.toNat).lo) (λi=>(mf q x i.toNat).hi) (λi=>(mf q x i.toNat).n) (λi=>(mf q x i.toNat).K) (dC q x).c (dC q x).lo (dC q x).hi (dC q x).n (dC q x).K (j:Int) j A hn a (d j a).2.1 (d j a).2.2
   (by rw[b,g];exact⟨rfl,rfl,rfl,rfl,rfl⟩) (j+1<=q.nw/\q.nw-(j+1)<q.nw-j/\(mE q x).pick=(mE q x).pick) Y
  exact this
 ·have e:j=q.nw:=by have:j<=q.nw:=e;omega
  have done:∀(i:Int)(Q:Prop),i=(q.nw:Int)->kr [jr] [] 31 7001 21 (mS q x) (λ_=>mE q x) (λi=>i+1) Q i:=λi Q h=>by
   have b:i.toNat=q.nw:=O
   refine(CA q x _ _ _ _ _ _ _ _ _ _ _ _ i Q).mpr ?_
   have k:z q.nw=(q.nw:Int):=rfl
   refine Zg O λ_=>?_
   rw[b]
   exact YG A ⟨λ_ _=>rfl,Zf A (Zf A (Zf A (Zf A (Zf A (Zf A (Zf A (Zf A (Zf A (Zf A ⟨aZ,rfl,Zf A ⟨rfl,Zf A trivial⟩⟩)))))))))⟩
  exact done (j:Int) _ O
def Uh:aD II 31 24002= .seq (.region (Uc (aD II 31 24002)) #[oper (aD II 31 24002) 0,oper (aD II 31 24002) 1] false) (Nl (aD II 31 24002)):=U
def Ui:(oper (aD II 31 24002) 0).op= .next (.tmp 97) false:=U
def Uj:(oper (aD II 31 24002) 0).guard=Option.none:=U
def Np(lo hi)(K)(S)(j):rL lo hi K (j::S)=rL lo hi K S+(if lo<=K j/\K j<=hi then 1 else 0):=by
 unfold rL
 grind
def pG:∀(n)(S:List Nat),S.Nodup->(∀j,j∈S->j<n)->S.length<=n
 |0,S,_,h=>by
  cases S with
  |nil=>exact dw _
  |cons a S=>exact absurd (h a List.mem_cons_self) (lZ _)
 |n+1,S,hn,h=>by
  by_cases hm:n∈S
  ·have:=pG n (S.erase n) (hn.erase n) Y
   grind
  ·have:=pG n S hn λj b=>by
    grind
   omega
def Jj(x)(c p)(s)(hn:s.n<=6)(m : -2<=s.lo/\s.lo<=4398046511104)(o : -2<=s.hi/\s.hi<=4398046511104):
  aE PP II false (aD II 31 24002) 22 (Fe x c p s.lo s.hi s.n s.K (fy s) []) (AN x c p (fy s (b_ s.n))):=by
 refine aE.walk iw [] (bm PP II []) 1000 (ι:=List Nat) (ir:=false) Uh Ui Uj 22 (λS=>S.Nodup/\∀j,j∈S->j<s.n) (Fe x c p s.lo s.hi s.n s.K (fy s)) (λ_=>AN x c p (fy s (b_ s.n))) (λS=>s.n-S.length) (λS j=>j::S) [] 21 20 (λ_=>s.n) (λ_=>s.K) (λS=>S) A ⟨List.nodup_nil,λj h=>zE⟩ (λS _=>⟨rfl,rfl,rfl⟩) ?_ ?_
 ·intro S hS k
  refine(Qz x c p s.lo s.hi s.n s.K (fy s) (fy s (b_ s.n)) S).mpr ?_
  have q:S.Perm (b_ s.n):=Y
  have r:fy s S=fy s (b_ s.n):=by
   unfold fy rL
   rw[(q.filter _).length_eq]
  exact Zf A (Zf A (Zf A (Zf A (Zf A (Zf A (Zf A (Zf A (Zf A (Zf A ⟨aZ,Zf r Y⟩)))))))))
 ·intro S hS j t u
  have l:S.length<=s.n:=pG _ _ hS.1 hS.2
  have e:(j::S).length<=s.n:=pG _ _ Y ZD
  have v:rL s.lo s.hi s.K S<=S.length:=List.length_filter_le _ _
  have f:((j::S).Nodup/\∀a,a∈j::S->a<s.n)/\s.n-(j::S).length<s.n-S.length/\(AN x c p (fy s (b_ s.n))).pick=(AN x c p (fy s (b_ s.n))).pick :=
   Y
  refine(Ue x c p s.lo s.hi s.n s.K (fy s) (fy s (b_ s.n)) S j _).mpr ?_
  have w:(Nat.beq s.n s.n&&Nat.blt j s.n)=true:=by
   rw[ni,Bool.true_and]
   exact kV t
  have d:fy s (j::S)=fy s S-(if s.lo<=s.K j/\s.K j<=s.hi then 1 else 0):=by
   unfold fy
   rw[Np]
   split<;>omega
  refine cC _ _ w (Zg (λg=>Zg (λi=>?_) λi=>?_) λg=>?_)
  ·rw[if_pos ⟨g,i⟩]at d
   refine cC _ _ (aq (by unfold fy;omega) (by unfold fy;omega)) ?_
   exact YG A ⟨rfl,YG A ⟨λ_ _=>rfl,Zf A (Zf A (Zf A (Zf A (Zf A (Zf A (Zf A (Zf A (Zf A (Zf A ⟨aZ,Zf d.symm ⟨rfl,Zf A ⟨rfl,Zf A f⟩⟩⟩)))))))))⟩⟩
  ·rw[if_neg (λb=>i b.2),m_]at d
   exact YG A ⟨rfl,YG A ⟨λ_ _=>rfl,Zf A (Zf A (Zf A (Zf A (Zf A (Zf A (Zf A (Zf A (Zf A (Zf A ⟨aZ,Zf d.symm ⟨rfl,Zf A ⟨rfl,Zf A f⟩⟩⟩)))))))))⟩⟩
  ·rw[if_neg (λb=>g b.1),m_]at d
   exact YG A ⟨rfl,YG A ⟨λ_ _=>rfl,Zf A (Zf A (Zf A (Zf A (Zf A (Zf A (Zf A (Zf A (Zf A (Zf A ⟨aZ,Zf d.symm ⟨rfl,Zf A ⟨rfl,Zf A f⟩⟩⟩)))))))))⟩⟩
def AO(i):HO.get i=if i=0 then .cells [.ab 5 2 aA] .ro else .dead:=by
 show AH.get {n:=12,t:=c_ [(0,_)]} i=_
 simp only[AH.get,c_,Tr.bH,Tr.qV]
 grind
def CB{ks:List (aC PP II)}{T:lI}{f:FuncId}{args:List AV}{a':AV}(b:∀σ,AV.le σ a' a')(h:ko ks T f args (λa=>a=a')):af PP II f args HO (.ret a' HO):=by
 obtain⟨o,c,g⟩:=fJ iw ks (bm PP II T) 1000 f args HO _ _ h
 cases o with
 |ret a H1=>
  obtain⟨x,H2,k1,k2⟩:=lm RI.dJ _ _ _ _ c
  obtain⟨d,k1⟩:=Zk k1
  have k1:H2.get 0= .cells [.ab 5 2 aA] .ro/\x=a':=k1
  obtain⟨j,k1⟩:=k1
  subst k1
  refine(g.vW k2).le (ky.of [] (im.of (by rfl) A A A d (gS.2 λl hl=>?_)) (b _))
  rw[AO]
  by_cases e:l=0
  ·subst e
   rw[if_pos A]
   have k:sig HO.n [] H2.n 0=0:=rfl
   have:=jX d
   show if sig HO.n [] H2.n 0<H2.n then ai.le (sig HO.n [] H2.n) (H2.get (sig HO.n [] H2.n 0)) (ai.cells [.ab 5 2 aA] Access.ro)else _
   rw[k,if_pos O,j]
   exact⟨⟨⟨rfl,rfl,λi hi=>aZ i hi _⟩,trivial⟩,trivial⟩
  ·rw[if_neg e];trivial
 |qt a H1=>exact c.elim
def Uk{q x}(f:aI 3 q.nw (au q.C)=true)(g:aI 1 q.ng (aR q.G)=true)(a:eU q=true)(hx:bB x=true):
  af PP II 31 [.agg (aY q),.agg (aF x)] HO (.ret (.bK [.bool (jA q x),.bool (gk q x),.int a_ 0]) HO):=by
 have b:=hx
 unfold bB at b
 simp only[bf,bn]at b
 obtain⟨⟨⟨_,hl⟩,j⟩,_⟩:=b
 obtain⟨d,e,k⟩:=wG (x:=x) a ⟨hl.1,O⟩ ⟨O,j⟩ q.nw (dw _)
 have hn:=(fQ a).1
 have lp:=No q x a
 have m:=Jj x (dC q x).c (dC q x).c (dC q x) (Nat.le_trans k hn) d e
 refine CB (ks:=[lQ,nL]) (T:=[(7001,21,mS q x 0,mE q x),(24002,22,Fe x (dC q x).c (dC q x).c (dC q x).lo (dC q x).hi (dC q x).n (dC q x).K (fy (dC q x)) [],AN x (dC q x).c (dC q x).c (fy (dC q x) (b_ (dC q x).n)))]) (λσ=>⟨rfl,rfl,⟨rfl,rfl⟩,trivial⟩) ?_
 refine(Uf q x (λi=>(mf q x i.toNat).c) (λi=>(mf q x i.toNat).c) (λi=>(mf q x i.toNat).lo) (λi=>(mf q x i.toNat).hi) (λi=>(mf q x i.toNat).n) (λi=>(mf q x i.toNat).K) (dC q x).c (dC q x).c (dC q x).lo (dC q x).hi (dC q x).n (dC q x).K (fy (dC q x)) (fy (dC q x) (b_ (dC q x).n)) _).mpr ?_
 have d : -2<=(dC q x).lo/\(dC q x).lo<=4398046511104:=d
 have e : -2<=(dC q x).hi/\(dC q x).hi<=4398046511104:=e
 have o:fy (dC q x) []=(dC q x).hi-(dC q x).lo+1:=by
  unfold fy
  show _-((0:Nat):Int)=_
  omega
 refine cC _ _ (by rw[f,g];rfl) (cC _ _ zI ?_)
 rw[hx]
 refine⟨lp,YG A (Zf A (Zf A (Zf A (Zf A (Zf A (Zf A (Zf A (Zf A (Zf A (Zf A (YG A ⟨bC _ _,YG A ⟨bO _ _,Zf A (Zf A (Zi A (Zi A (Zf A ⟨aZ,YG A ⟨bC _ _,rfl,Zf A (Zf A ⟨rfl,Zf A ?_⟩)⟩⟩))))⟩⟩)))))))))))⟩
 refine cC _ _ (aq O O) (cC _ _ (aq O O) ⟨m,YG A ⟨rfl,YG A ⟨λ_ _=>rfl,Zf A (Zf A (Zf A (Zf A (Zf A (Zf A (Zf A (Zf A (Zf A (Zf A ⟨aZ,Zf o.symm ⟨rfl,Zf A ⟨rfl,Zf A ?_⟩⟩⟩)))))))))⟩⟩⟩)
 unfold jA gk lT
 have r1:aN a_ (x.h-x.l)=true:=aq O O
 have p:aN a_ (x.h-x.l+1)=true:=aq O O
 cases r:(dC q x).c with
 |true=>exact cC _ _ r1 (cC _ _ p ⟨rfl,rfl⟩)
 |false=>exact⟨rfl,rfl⟩
end
end Go.Sx
