/- CertifyOpens is proved, part 36. -/
import Derived.Test.YtleifmkjbmhlpaaGreatDoorX31
import Derived.Test.YtleifmkjbmhlpaaGreatDoorX27
import Derived.Test.YtleifmkjbmhlpaaGreatDoorX35
set_option linter.unusedVariables false
set_option linter.unusedSimpArgs false
set_option linter.unusedSectionVars false
section
set_option maxRecDepth 1000000
namespace Go.Sx
open Go
def InSet (s:MSt) (N:Int): Prop := ∃ i,i<s.n∧s.K i=N
theorem mNext_mono (q:Query) (x:Fact) (j:Nat) (s:MSt): s.lo≤(mNext q x j s).lo∧(mNext q x j s).hi≤s.hi∧((mNext q x j s).c=true→s.c=true)∧ ∀ N,InSet s N→InSet (mNext q x j s) N:=by
 refine ⟨?_,?_,fun h=>?_,fun N h=>?_⟩
 ·simp only [mNext]
  split
  ·split<;>omega
  ·omega
 ·simp only [mNext]
  split
  ·split<;>omega
  ·split
   ·split<;>omega
   ·omega
 ·simp only [mNext,Bool.and_eq_true] at h
  exact h.1
 ·obtain ⟨i,h1,h2⟩:=h
  by_cases hc:q.C j 0=8∧q.C j 1=2∧isetIn (q.C j 2) s.K s.n=false
  ·refine ⟨i,?_,?_⟩
   ·show i<if _ then _ else _
    rw [if_pos hc];omega
   ·show (if _ then _ else _:Nat→Int) i=N
    rw [if_pos hc]
    have:Nat.beq i s.n=false:=by
     cases hb:Nat.beq i s.n with
     | false=>rfl
     | true=>have:=Nat.eq_of_beq_eq_true hb;omega
    unfold isetSnoc
    rw [this];exact h2
  ·refine ⟨i,?_,?_⟩
   ·show i<if _ then _ else _
    rw [if_neg hc];exact h1
   ·show (if _ then _ else _:Nat→Int) i=N
    rw [if_neg hc];exact h2
theorem mNext_does (q:Query) (x:Fact) (j:Nat) (s:MSt) (h:q.C j 0=8): (q.C j 1=1→q.C j 2≤(mNext q x j s).lo∧(mNext q x j s).hi≤q.C j 2)∧(q.C j 1=2→InSet (mNext q x j s) (q.C j 2))∧(q.C j 1=3→(mNext q x j s).hi≤q.C j 2-1)∧(q.C j 1=4→q.C j 2≤(mNext q x j s).lo):=by
 refine ⟨fun e=>⟨?_,?_⟩,fun e=>?_,fun e=>?_,fun e=>?_⟩
 ·simp only [mNext]
  rw [if_pos ⟨h,.inl e⟩]
  split<;>omega
 ·simp only [mNext]
  rw [if_pos ⟨h,e⟩]
  split<;>omega
 ·cases hi:isetIn (q.C j 2) s.K s.n with
  | true=>
   unfold isetIn at hi
   obtain ⟨i,h1,h2⟩:=List.any_eq_true.1 hi
   have hc : ¬ (q.C j 0=8∧q.C j 1=2∧isetIn (q.C j 2) s.K s.n=false):=fun z=>by
    have:=z.2.2
    unfold isetIn at this
    rw [hi] at this;cases this
   have h2:q.C j 2=s.K i:=by simpa using h2
   refine ⟨i,?_,?_⟩
   ·show i<if _ then _ else _
    rw [if_neg hc];exact List.mem_range.1 h1
   ·show (if _ then _ else _:Nat→Int) i=_
    rw [if_neg hc];exact h2.symm
  | false=>
   have hc:q.C j 0=8∧q.C j 1=2∧isetIn (q.C j 2) s.K s.n=false:=⟨h,e,hi⟩
   refine ⟨s.n,?_,?_⟩
   ·show s.n<if _ then _ else _
    rw [if_pos hc];omega
   ·show (if _ then _ else _:Nat→Int) s.n=_
    rw [if_pos hc]
    unfold isetSnoc
    rw [Nat.beq_refl];rfl
 ·simp only [mNext]
  rw [if_neg (by omega),if_pos ⟨h,e⟩]
  split<;>omega
 ·simp only [mNext]
  rw [if_pos ⟨h,.inr e⟩]
  split<;>omega
theorem mAt_mono (q:Query) (x:Fact) (j:Nat): ∀ d,(mAt q x j).lo≤(mAt q x (j+d)).lo∧(mAt q x (j+d)).hi≤(mAt q x j).hi∧((mAt q x (j+d)).c=true→(mAt q x j).c=true)∧ ∀ N,InSet (mAt q x j) N→InSet (mAt q x (j+d)) N
 | 0=>⟨Int.le_refl _,Int.le_refl _,id,fun _=>id⟩
 | d+1=>by
  obtain ⟨h1,h2,h3,h4⟩:=mAt_mono q x j d
  obtain ⟨k1,k2,k3,k4⟩:=mNext_mono q x (j+d) (mAt q x (j+d))
  exact ⟨Int.le_trans h1 k1,Int.le_trans k2 h2,fun e=>h3 (k3 e),fun N e=>k4 N (h4 N e)⟩
theorem left_empty {q:Query} {x:Fact} (h:(mEnd q x).hi<(mEnd q x).lo): matP q x=false:=by
 have : ¬ matLeft q x>0:=by unfold matLeft leftF;omega
 unfold matP
 rw [decide_eq_false this,Bool.and_false]
theorem matP_false {q:Query} {x:Fact} (hq:qok q=true) (hx:x.l≤x.h) (he:exclF q.nw q.C (coverC (loI x) (hiI x))=true): matP q x=false:=by
 obtain ⟨j,hj,hr⟩:=List.any_eq_true.1 he
 have hj:=List.mem_range.1 hj
 obtain ⟨hf,ho,_⟩:=(qok_conds hq).2 j hj
 obtain ⟨d,hd⟩: ∃ d,q.nw=j+1+d:=⟨q.nw-(j+1),by omega⟩
 obtain ⟨m1,m2,m3,m4⟩:=mAt_mono q x (j+1) d
 rw [←hd] at m1 m2 m3 m4
 obtain ⟨z1,z2,_,_⟩:=mAt_mono q x 0 q.nw
 rw [Nat.zero_add] at z1 z2
 have z1:x.l≤(mEnd q x).lo:=z1
 have z2:(mEnd q x).hi≤x.h:=z2
 have m1:(mNext q x j (mAt q x j)).lo≤(mEnd q x).lo:=m1
 have m2:(mEnd q x).hi≤(mNext q x j (mAt q x j)).hi:=m2
 have m3:(mEnd q x).c=true→(mNext q x j (mAt q x j)).c=true:=m3
 have m4 : ∀ N,InSet (mNext q x j (mAt q x j)) N→InSet (mEnd q x) N:=m4
 unfold rowX rowH at hr
 simp only [Bool.not_eq_true',decide_eq_false_iff_not] at hr
 by_cases h8:q.C j 0=8
 ·obtain ⟨d1,d2,d3,d4⟩:=mNext_does q x j (mAt q x j) h8
  rw [h8] at hr
  have hr : ¬ ((q.C j 1=1∧x.l≤q.C j 2∧q.C j 2≤x.h)∨(q.C j 1=2∧x.l≤x.h∧(x.l≠q.C j 2∨x.h≠q.C j 2))∨(q.C j 1=3∧x.l≤x.h∧x.l<q.C j 2)∨(q.C j 1=4∧x.l≤x.h∧q.C j 2≤x.h)):=hr
  by_cases o1:q.C j 1=1
  ·have:=d1 o1
   exact left_empty (by omega)
  by_cases o3:q.C j 1=3
  ·have:=d3 o3
   exact left_empty (by omega)
  by_cases o4:q.C j 1=4
  ·have:=d4 o4
   exact left_empty (by omega)
  have o2:q.C j 1=2:=by omega
  by_cases hlt:(mEnd q x).hi<(mEnd q x).lo
  ·exact left_empty hlt
  obtain ⟨i,i1,i2⟩:=m4 _ (d2 o2)
  have hpos:0<cntIn (mEnd q x).lo (mEnd q x).hi (mEnd q x).K (List.range (mEnd q x).n):=by
   unfold cntIn
   refine List.length_pos_of_mem (a:=i) (List.mem_filter.2 ⟨List.mem_range.2 i1,?_⟩)
   rw [i2,decide_eq_true (show (mEnd q x).lo≤q.C j 2 by omega),decide_eq_true (show q.C j 2≤(mEnd q x).hi by omega)];rfl
  have : ¬ matLeft q x>0:=by unfold matLeft leftF;omega
  unfold matP
  rw [decide_eq_false this,Bool.and_false]
 ·have hop:opF (q.C j 1) (valF x (q.C j 0) 0) (q.C j 2)=false:=by
   refine decide_eq_false ?_
   have hv:int64At (coverC (loI x) (hiI x)) (Int.toNat (q.C j 0-1)*1+0)=valF x (q.C j 0) 0∧int64At (coverC (loI x) (hiI x)) (Int.toNat (q.C j 0-1)*1+8)=valF x (q.C j 0) 0:=by
    generalize q.C j 0=f at*
    have:f=1∨f=2∨f=3∨f=4∨f=5∨f=6∨f=7:=by omega
    rcases this with rfl | rfl | rfl | rfl | rfl | rfl | rfl<;>exact ⟨rfl,rfl⟩
   rw [hv.1,hv.2] at hr
   omega
  have:(mEnd q x).c=false:=by
   cases hc:(mEnd q x).c with
   | false=>rfl
   | true=>
    have:=m3 hc
    simp only [mNext,Bool.and_eq_true,Bool.or_eq_true,decide_eq_true_eq] at this
    rcases this.2 with h | h
    ·exact absurd h h8
    ·rw [hop] at h;cases h
  unfold matP
  rw [this,Bool.false_and]
end Go.Sx
end
section
set_option maxRecDepth 1000000
namespace Go.Sx
open Go Small
theorem rowsP (w:LW): RowsLe w.M (fun j=>pieceAV (w.p j)) (fun j=>pieceAV (w.p j)):=fun j _ σ=>piece_le (w.p j) σ
theorem rowsF (w:LW): RowsLe w.L (fun i=>factAV (w.F i)) (fun i=>factAV (w.F i)):=fun i _ σ=>factAV_le σ (w.F i)
end Go.Sx
end
section
set_option maxRecDepth 1000000
namespace Go.Sx
open Go
def qBack (q:Query): Query:=⟨q.nw,rowsX (qRow q.C),q.ng,fun j=>q.G j,q.a,q.fl,q.nu,q.de,q.top⟩
theorem mAt_back (q:Query) (x:Fact): ∀ j,mAt (qBack q) x j=mAt q x j
 | 0=>rfl
 | j+1=>by
  show mNext (qBack q) x j (mAt (qBack q) x j)=mNext q x j (mAt q x j)
  rw [mAt_back q x j];rfl
theorem matP_back (q:Query) (x:Fact): matP (qBack q) x=matP q x:=by
 unfold matP matLeft
 have:mEnd (qBack q) x=mEnd q x:=mAt_back q x q.nw
 rw [this]
theorem refl_all {n:Nat} {p:Nat→Bool} (h : ∀ i,p i=true): List.all (List.range.loop n []) p=true:=List.all_eq_true.2 fun i _=>h i
def ownX (q:Query) (x:Fact): Bool:=exclF q.nw q.C (coverC (loI x) (hiI x))
theorem opsB_of {q:Query} (hq:qok q=true): opsB q.nw q.C=true:=by
 obtain ⟨h1,h2⟩:=qok_conds hq
 unfold opsB
 rw [decide_eq_true h1,Bool.true_and]
 refine List.all_eq_true.2 fun j hj=>?_
 obtain ⟨a,b,_⟩:=h2 j (List.mem_range.1 hj)
 simp only [Bool.and_eq_true,decide_eq_true_eq]
 exact ⟨⟨⟨a.1,a.2⟩,b.1⟩,b.2⟩
theorem facts_round (q:Query) (w:LW) (n:Nat) (F:Nat→Fact) (a:Int→Int) (aE:Int) (i:Int) (j:Nat) (hij:i=(j:Int)) (hj:j<w.L) (hL:w.L≤1000000) (hn:n≤1000000) (h1:intsRows 3 q.nw (qRow q.C)=true) (h2:intsRows 1 q.ng (gRow q.G)=true) (hq:qok q=true)
  (hv:validF (w.F j)=true) (hx:ownX q (w.F j)=true→a (i+1)=a i) (ho:ownX q (w.F j)=false→ ∃ k:Nat,a i=(k:Int)∧k<n∧F k=w.F j∧a (i+1)=a i+1) (Q:Prop) (hQ:Q):
  kr [kMat,kROf,kExcQ] [] 3 18004 20 (s3b q w n F a) (fun _=>e3b n aE) (fun i=>i+1) Q i:=by
 rw [facts_step]
 have e1:Int.toNat i=j:=by omega
 have eL:Int.ofNat w.L=(w.L:Int):=rfl
 have en:Int.ofNat n=(n:Int):=rfl
 rw [e1]
 have hr:(decide (0≤i)&&decide (i<Int.ofNat w.L))=true:=by simp only [Bool.and_eq_true,decide_eq_true_eq];omega
 have hi1:inR .i64 (i+1)=true:=inR_small (by omega) (by omega)
 have hI:(intsRows 3 q.nw (qRow q.C)&&intsRows 1 q.ng (gRow q.G))=true:=by rw [h1,h2];rfl
 have hl:(w.F j).l≤(w.F j).h:=by
  have:=hv
  unfold validF at this
  simp only [Bool.and_eq_true,decide_eq_true_eq] at this
  exact this.1.1.2.2
 have fin : ∀ a':Int,a'=a (i+1)→Asks (inR .i64 (i+1)) (EqN n n ((RowsLe n (fun j=>factAV (F j)) fun j=>factAV (F j))∧EqN (Query.nw q) (Query.nw q) (RowsLe (Query.nw q) (qRow (Query.C q)) (qRow (Query.C q))∧EqN (Query.ng q) (Query.ng q) (RowsLe (Query.ng q) (gRow (Query.G q)) (gRow (Query.G q))∧EqI (Query.a q) (Query.a q) (EqI (Query.fl q) (Query.fl q) (EqB (Query.nu q) (Query.nu q) (EqB (Query.de q) (Query.de q) (EqI (Query.top q) (Query.top q) (RowsLe (5:Nat) opsRow opsRow∧true=true∧EqI a' (a (i+1)) (EqN n n (EqN (LW.L w) (LW.L w) ((RowsLe (LW.L w) (fun i=>factAV (LW.F w i)) fun i=>factAV (LW.F w i))∧EqI (i+1) (i+1) Q)))))))))))):=fun a' e=>
  Asks.mk hi1 (EqN.mk rfl ⟨fun j _ σ=>factAV_le σ (F j),EqN.mk rfl ⟨qRows _ _,EqN.mk rfl ⟨gRows _ _,EqI.mk rfl (EqI.mk rfl (EqB.mk rfl (EqB.mk rfl (EqI.mk rfl ⟨opsRows,rfl,EqI.mk e (EqN.mk rfl (EqN.mk rfl ⟨rowsF w,EqI.mk rfl hQ⟩))⟩))))⟩⟩⟩)
 refine Cond.mkP (fun _=>?_) fun h=>absurd h (by omega)
 refine Asks.mk' _ _ hr (Asks.mk' _ _ hI (Asks.mk' _ _ ((qok_back q).trans hq) (Asks.mk' _ _ hv (Asks.mk' _ _ hr (Asks.mk' _ _ ?_ (Asks.mk' _ _ hI (Asks.mk' _ _ ?_ ?_)))))))
 ·simp only [decide_true,Bool.and_true,Bool.true_and,Bool.and_self]
  rw [refl_all (fun _=>rfl),refl_all (fun _=>rfl)];rfl
 ·have:=opsB_of hq
  show (opsB q.nw q.C&&true&&true)=true
  rw [this];rfl
 ·refine Cond.mk (fun h=>?_) fun h=>?_
  ·have h:ownX q (w.F j)=true:=h
   refine Cond.mk (fun h'=>?_) fun _=>fin _ (hx h).symm
   have h':matP (qBack q) (w.F j)=true:=h'
   rw [matP_back,matP_false hq hl h] at h';cases h'
  ·obtain ⟨k,k1,k2,k3,k4⟩:=ho h
   have ek:Int.toNat (a i)=k:=by omega
   refine Cond.mkP (fun h=>absurd h (by omega)) fun _=>?_
   rw [ek,k3]
   refine Asks.mk' _ _ (by simp only [Bool.and_eq_true,decide_eq_true_eq];omega) (Asks.mk' _ _ (decide_eq_true k2) (Asks.mk' _ _ hr ?_))
   refine Cond.mk (fun h=>?_) fun _=>Asks.mk' _ _ (inR_small (by omega) (by omega)) (fin _ k4.symm)
   simp at h
end Go.Sx
end
section
set_option maxRecDepth 1000000
namespace Go.Sx
open Go
def keepN (q:Query) (w:LW): Nat→Nat
 | 0=>0
 | j+1=>bif ownX q (w.F j) then keepN q w j else keepN q w j+1
def OpenedBy (q:Query) (w:LW) (n:Nat) (F:Nat→Fact): Prop:=n=keepN q w w.L∧ ∀ j,j<w.L→ownX q (w.F j)=false→F (keepN q w j)=w.F j
theorem keepN_le (q:Query) (w:LW) (j:Nat): ∀ d,keepN q w j≤keepN q w (j+d)∧keepN q w (j+d)≤keepN q w j+d
 | 0=>⟨Nat.le_refl _,Nat.le_refl _⟩
 | d+1=>by
  obtain ⟨h1,h2⟩:=keepN_le q w j d
  show keepN q w j≤(bif ownX q (w.F (j+d)) then keepN q w (j+d) else keepN q w (j+d)+1)∧(bif ownX q (w.F (j+d)) then keepN q w (j+d) else keepN q w (j+d)+1)≤_
  cases ownX q (w.F (j+d)) with
  | true=>exact ⟨h1,by show keepN q w (j+d)≤_;omega⟩
  | false=>exact ⟨by show _≤keepN q w (j+d)+1;omega,by show keepN q w (j+d)+1≤_;omega⟩
theorem facts_loop {q:Query} {w:LW} {n:Nat} {F:Nat→Fact} (hF:OpenedBy q w n F) (hL:w.L≤1000000) (h1:intsRows 3 q.nw (qRow q.C)=true) (h2:intsRows 1 q.ng (gRow q.G)=true) (hq:qok q=true) (hv : ∀ j,j<w.L→validF (w.F j)=true):
  LoopAt PP II false (loopOf II 3 18004) 20 (s3b q w n F (fun i=>(keepN q w i.toNat:Int)) 0) (e3b n n):=by
 obtain ⟨hn,hF⟩:=hF
 have h0 : ∀ j,keepN q w j≤j:=fun j=>by
  have:=(keepN_le q w 0 j).2
  rw [Nat.zero_add] at this
  show keepN q w j≤j
  have e:keepN q w 0=0:=rfl
  omega
 have hnL:n≤w.L:=by rw [hn];exact h0 _
 have key:=LoopAt.of (ι:=Nat) hII [kMat,kROf,kExcQ] (lamT_ok PP II []) 1000 (c:=loopOf II 3 18004) (ir:=false) 20 (fun j=>j≤w.L) (fun j=>s3b q w n F (fun i=>(keepN q w i.toNat:Int)) (j:Int)) (fun _=>e3b n n) (fun j=>w.L-j) (fun j=>j+1) 0 rfl (Nat.zero_le _) fun j hj=>?_
 ·exact key
 by_cases hlt:j<w.L
 ·have e1:((j:Int)).toNat=j:=by omega
  have e2:((j:Int)+1).toNat=j+1:=by omega
  have:=facts_round q w n F (fun i=>(keepN q w i.toNat:Int)) n (j:Int) j rfl hlt hL (by omega) h1 h2 hq (hv j hlt)
   (fun h=>by
    show ((keepN q w ((j:Int)+1).toNat:Nat): Int)=((keepN q w ((j:Int)).toNat:Nat): Int)
    rw [e1,e2]
    show (((bif ownX q (w.F j) then keepN q w j else keepN q w j+1): Nat): Int)=_
    rw [h];rfl)
   (fun h=>by
    have hs:keepN q w (j+1)=keepN q w j+1:=by
     show (bif ownX q (w.F j) then keepN q w j else keepN q w j+1)=_
     rw [h];rfl
    refine ⟨keepN q w j,?_,?_,hF j hlt h,?_⟩
    ·show ((keepN q w ((j:Int)).toNat:Nat): Int)=_
     rw [e1]
    ·have:=(keepN_le q w (j+1) (w.L-(j+1))).1
     rw [show j+1+(w.L-(j+1))=w.L by omega] at this
     omega
    ·show ((keepN q w ((j:Int)+1).toNat:Nat): Int)=((keepN q w ((j:Int)).toNat:Nat): Int)+1
     rw [e1,e2,hs];rfl) (j+1≤w.L∧w.L-(j+1)<w.L-j∧(e3b n n).pick=(e3b n n).pick) ⟨hlt,by omega,rfl⟩
  exact this
 ·have hj:j=w.L:=by have:j≤w.L:=hj;omega
  have done : ∀ (i:Int) (Q:Prop),i=(w.L:Int)→kr [kMat,kROf,kExcQ] [] 3 18004 20 (s3b q w n F (fun i=>(keepN q w i.toNat:Int))) (fun _=>e3b n n) (fun i=>i+1) Q i:=fun i Q hiN=>by
   have e1:i.toNat=w.L:=by omega
   refine (facts_step q w n F _ n i Q).mpr ?_
   have en:Int.ofNat w.L=(w.L:Int):=rfl
   refine Cond.mkP (fun h=>absurd h (by omega)) fun _=>?_
   refine ⟨rfl,EqI.mk ?_ (EqN.mk rfl trivial)⟩
   show ((keepN q w i.toNat:Nat): Int)=_
   rw [e1,hn]
  exact done (j:Int) _ (by omega)
end Go.Sx
end
