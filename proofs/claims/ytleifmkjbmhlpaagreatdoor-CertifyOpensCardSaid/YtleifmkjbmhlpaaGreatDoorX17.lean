/- CertifyOpens is proved, part 17. -/
import Derived.Test.YtleifmkjbmhlpaaGreatDoorX16
set_option linter.unusedVariables false
set_option linter.unusedSimpArgs false
set_option linter.unusedSectionVars false
section
set_option maxRecDepth 1000000
namespace Go.Sx
open Go
theorem halfN_of {n:Nat} (h:2≤n): halfN n=2^Nat.log2 (n-1):=by
 unfold halfN
 cases hb:Nat.ble n 1 with
 | true=>have:=Nat.le_of_ble_eq_true hb;omega
 | false=>rfl
theorem half_facts {n:Nat} (h:2≤n): 1≤halfN n∧halfN n≤n-1∧n≤2*halfN n:=by
 rw [halfN_of h]
 have h1:=Nat.log2_self_le (n:=n-1) (by omega)
 have h2:=Nat.lt_log2_self (n:=n-1)
 have h3:0<2^Nat.log2 (n-1):=Nat.two_pow_pos _
 rw [Nat.pow_succ] at h2
 omega
theorem half_le {n d:Nat} (h:2≤n) (hn:n≤2^d): 2*halfN n≤2^d:=by
 rw [halfN_of h]
 have h0:n-1≠0:=by omega
 have h1:Nat.log2 (n-1)<d:=(Nat.log2_lt h0).2 (by omega)
 have:=Nat.pow_le_pow_right (n:=2) (by omega) h1
 rw [Nat.pow_succ] at this
 omega
theorem topF_ok : ∀ (d n:Nat) (F:Nat→Fact),growOk d n=true→factsOk n F=true→nodeOk (topF (growT d n F))=true:=by
 intro d
 induction d with
 | zero=>
  intro n F h1 _
  simp only [growOk,Bool.and_eq_true] at h1
  have a:=Nat.le_of_ble_eq_true h1.1
  have b:=Nat.le_of_ble_eq_true h1.2
  simp at b;omega
 | succ d ih=>
  intro n F h1 h2
  simp only [growOk,Bool.and_eq_true] at h1
  have a:=Nat.le_of_ble_eq_true h1.1
  have b:=Nat.le_of_ble_eq_true h1.2
  have hall:=List.all_eq_true.1 h2
  unfold growT
  cases hb:Nat.ble n 1 with
  | true=>exact leafF_ok (hall 0 (List.mem_range.2 (by omega)))
  | false=>
   have hn:2≤n:=Nat.lt_of_not_le fun e=>by rw [Nat.ble_eq_true_of_le e] at hb;cases hb
   have hf:=half_facts hn
   have hl:=half_le (d:=d) hn (by rw [Nat.pow_succ] at b;omega)
   refine joinF_ok (ih _ _ ?_ ?_) (ih _ _ ?_ ?_)
   ·simp only [growOk,Bool.and_eq_true];exact ⟨Nat.ble_eq_true_of_le hf.1,Nat.ble_eq_true_of_le hl⟩
   ·exact List.all_eq_true.2 fun i hi=>hall i (List.mem_range.2 (by have:=List.mem_range.1 hi;omega))
   ·simp only [growOk,Bool.and_eq_true];exact ⟨Nat.ble_eq_true_of_le (by omega),Nat.ble_eq_true_of_le (by omega)⟩
   ·exact List.all_eq_true.2 fun i hi=>hall _ (List.mem_range.2 (by have:=List.mem_range.1 hi;omega))
theorem cells_le (σ:Nat→Nat) (n:Node) (x:Fact) {k:AV} (h:AV.le σ k k): AVs.le σ (cellsOf n x k) (cellsOf n x k):=⟨⟨rfl,rfl⟩,⟨rfl,rfl⟩,⟨rfl,rfl⟩,⟨rfl,rfl⟩,⟨rfl,rfl⟩,⟨rfl,rfl⟩,⟨rfl,rfl⟩,⟨rfl,rfl⟩,⟨rfl,rfl⟩,⟨rfl,rfl⟩,⟨rfl,rfl⟩,⟨rfl,rfl⟩,⟨rfl,rfl⟩,⟨rfl,rfl⟩,⟨rfl,rfl⟩,⟨rfl,rfl⟩,rfl,rfl,⟨rfl,rfl⟩,⟨rfl,rfl⟩,⟨rfl,rfl⟩,⟨rfl,rfl⟩,⟨rfl,rfl⟩,⟨rfl,rfl⟩,⟨rfl,rfl⟩,⟨rfl,rfl⟩,⟨rfl,rfl⟩,⟨rfl,rfl⟩,h,trivial⟩
theorem kids_le (σ:Nat→Nat): ∀ t,AV.le σ (kidsF t) (kidsF t)
 | .leaf _=>trivial
 | .node l r=>by
  refine ⟨rfl,rfl,fun i hi=>?_⟩
  match i,hi with
  | 0,_=>exact ⟨⟨cells_le σ _ _ (kids_le σ l),rfl⟩,trivial⟩
  | 1,_=>exact ⟨⟨cells_le σ _ _ (kids_le σ r),rfl⟩,trivial⟩
  | k+2,hk=>omega
theorem tree_le (σ:Nat→Nat) (t:Tree): AV.le σ (treeAV t) (treeAV t):=⟨cells_le σ _ _ (kids_le σ t),rfl⟩
theorem factRefl (F:Nat→Fact) (k m:Nat): (decide (m=m)&&true&&List.all (List.range.loop m []) fun i=>decide (Fact.t (F (k+i))=Fact.t (F (k+i)))&&(decide (Fact.s (F (k+i))=Fact.s (F (k+i)))&&(decide (Fact.v (F (k+i))=Fact.v (F (k+i)))&&(decide (Fact.w (F (k+i))=Fact.w (F (k+i)))&&(decide (Fact.o (F (k+i))=Fact.o (F (k+i)))&&(decide (Fact.p (F (k+i))=Fact.p (F (k+i)))&&(decide (Fact.d (F (k+i))=Fact.d (F (k+i)))&&(decide (Fact.l (F (k+i))=Fact.l (F (k+i)))&&(decide (Fact.h (F (k+i))=Fact.h (F (k+i)))&&(decide (Fact.b (F (k+i))=Fact.b (F (k+i)))&&true))))))))))=true:=by
 simp only [decide_true,Bool.and_self,Bool.true_and,List.all_eq_true,implies_true]
theorem grows_succ {d:Nat} (hd:d≤19) (ih:Grows d): Grows (d+1):=by
 intro n F h1 h2
 have h1':=h1
 simp only [growOk,Bool.and_eq_true] at h1
 have a:=Nat.le_of_ble_eq_true h1.1
 have b:=Nat.le_of_ble_eq_true h1.2
 have hall:=List.all_eq_true.1 h2
 have hd':2^d≤2^19:=Nat.pow_le_pow_right (by omega) hd
 have hn':n≤2^d:=by rw [Nat.pow_succ] at b;omega
 have e0:Int.ofNat n=(n:Int):=rfl
 refine of_kh (ks:=[kLeaf,kHalf,kGrowB d ih,kJoin]) (T:=[]) (fun σ=>tree_le σ _) ?_
 rw [grow_vc d n F ih]
 refine Cond.mk (fun h=>?_) fun h=>?_
 ·simp only [decide_eq_true_eq] at h
  have hn:n=1:=by omega
  subst hn
  refine Asks.mk (decide_eq_true (by decide)) (Asks.mk (hall 0 (by simp)) (Asks.mk (decide_eq_true (by decide)) (Asks.mk ?_ rfl)))
  simp only [decide_true,Bool.and_self]
 ·simp only [decide_eq_false_iff_not] at h
  have hn:2≤n:=by omega
  have hf:=half_facts hn
  have hl:=half_le hn hn'
  have eh:Int.toNat (Int.ofNat n)=n:=rfl
  have ea:Int.toNat (Int.ofNat (halfN n)-(0:Int))=halfN n:=by
   have:Int.ofNat (halfN n)=((halfN n:Nat): Int):=rfl
   omega
  have eb:Int.toNat (Int.ofNat n-Int.ofNat (halfN n))=n-halfN n:=by
   have:Int.ofNat (halfN n)=((halfN n:Nat): Int):=rfl
   omega
  have ez:Int.toNat (Int.ofNat (halfN n))=halfN n:=rfl
  have zf:(fun i=>factAV (F (0+i)))=fun i=>factAV (F i):=by funext i;rw [Nat.zero_add]
  rw [eh,ea,eb,ez]
  have fA:factAt (fun i=>factAV (F i))=F:=rfl
  have fB:factAt (fun i=>factAV (F (halfN n+i)))=fun i=>F (halfN n+i):=rfl
  rw [zf,fA,fB]
  have e1:Int.ofNat (halfN n)=((halfN n:Nat): Int):=rfl
  have gA:growOk d (halfN n)=true:=by simp only [growOk,Bool.and_eq_true];exact ⟨Nat.ble_eq_true_of_le hf.1,Nat.ble_eq_true_of_le hl⟩
  have gB:growOk d (n-halfN n)=true:=by simp only [growOk,Bool.and_eq_true];exact ⟨Nat.ble_eq_true_of_le (by omega),Nat.ble_eq_true_of_le (by omega)⟩
  have kA:factsOk (halfN n) F=true:=List.all_eq_true.2 fun i hi=>hall i (List.mem_range.2 (by have:=List.mem_range.1 hi;omega))
  have kB:factsOk (n-halfN n) (fun i=>F (halfN n+i))=true:=List.all_eq_true.2 fun i hi=>hall _ (List.mem_range.2 (by have:=List.mem_range.1 hi;omega))
  have hb:Nat.ble n 1=false:=by
   cases hb:Nat.ble n 1 with
   | true=>have:=Nat.le_of_ble_eq_true hb;omega
   | false=>rfl
  have eg:growT (d+1) n F= .node (growT d (halfN n) F) (growT d (n-halfN n) fun i=>F (halfN n+i)):=by
   show (match Nat.ble n 1 with | true=>_ | false=>_)=_
   rw [hb]
  have b3:(decide (0≤Int.ofNat (halfN n))&&decide (Int.ofNat (halfN n)≤Int.ofNat n)&&decide (Int.ofNat n≤Int.ofNat n))=true:=by
   simp only [Bool.and_eq_true,decide_eq_true_eq];omega
  refine Asks.mk (by simp only [Bool.and_eq_true,decide_eq_true_eq];omega) (Asks.mk (by simp only [Bool.and_eq_true,decide_eq_true_eq];omega) (Asks.mk (isFacts_facts _ _) (Asks.mk gA (Asks.mk kA (Asks.mk b3 (Asks.mk b3 (Asks.mk (factRefl F _ _) (Asks.mk (isFacts_facts _ fun i=>F (halfN n+i)) (Asks.mk gB (Asks.mk kB (Asks.mk ?_ ?_)))))))))))
  ·show (nodeOk (topF (growT d (halfN n) F))&&nodeOk (topF (growT d (n-halfN n) fun i=>F (halfN n+i))))=true
   rw [topF_ok d _ _ gA kA,topF_ok d _ _ gB kB];rfl
  ·rw [eg]
   clear eg hb kB kA gB gA b3 e1 ez eb ea eh h
   kernel_rfl
theorem grows_zero:Grows 0:=by
 intro n F h1 _
 simp only [growOk,Bool.and_eq_true] at h1
 have a:=Nat.le_of_ble_eq_true h1.1
 have b:=Nat.le_of_ble_eq_true h1.2
 simp at b;omega
theorem grows_all : ∀ d,d≤20→Grows d
 | 0,_=>grows_zero
 | d+1,h=>grows_succ (by omega) (grows_all d (by omega))
noncomputable def kGrow:Known PP II:=kGrowB 20 (grows_all 20 (by omega))
end Go.Sx
end
section
namespace Go.Sx
def mkLow (c d:Int): Int:=match decide (pickF d 4=3) with | true=>pickF c 2199023255552 | false=>pickF c 40
def mkFact (a b c d:Int): Fact where
 t:=pickF a 30
 s:=pickF (Int.tdiv a 30) 4
 v:=pickF b 2
 w:=pickF (Int.tdiv b 2) 3
 o:=2*pickF b 2+pickF (Int.tdiv b 3000) 2
 p:=pickF (Int.tdiv b 6) 5-1
 d:=Int.tdiv (pickF a 30) 10
 l:=mkLow c d
 h:=mkLow c d+pickF (Int.tdiv d 4) 3*pickF (Int.tdiv d 12) 30
 b:=pickF (Int.tdiv b 30) 100
def ltF (x f:Fact): Bool:=decide (x.t<f.t)||(decide (x.t=f.t)&&decide (x.s<f.s))
def atF (x f:Fact): Bool:=decide (x.t=f.t)&&decide (x.s=f.s)
def posL:List Fact→Fact→Nat
 | [],_=>0
 | x::l,f=>match ltF x f with | true=>posL l f+1 | false=>0
def insL:List Fact→Fact→List Fact
 | [],f=>[f]
 | x::l,f=>match ltF x f with
  | true=>x::insL l f
  | false=>match atF x f with | true=>x::l | false=>f::x::l
def getL (l:List Fact) (i:Nat): Fact:=l.getD i zeroFact
theorem posL_le : ∀ (l:List Fact) (f:Fact),posL l f≤l.length
 | [],_=>Nat.le_refl _
 | x::l,f=>by
  unfold posL
  have:=posL_le l f
  split<;>simp only [List.length_cons]<;>omega
theorem posL_lt : ∀ (l:List Fact) (f:Fact) (k:Nat),k<posL l f→ltF (getL l k) f=true
 | [],_,_,h=>absurd h (Nat.not_lt_zero _)
 | x::l,f,k,h=>by
  unfold posL at h
  split at h
  ·rename_i e
   cases k with
   | zero=>exact e
   | succ k=>exact posL_lt l f k (by omega)
  ·omega
theorem posL_at : ∀ (l:List Fact) (f:Fact),posL l f<l.length→ltF (getL l (posL l f)) f=false
 | [],_,h=>absurd h (Nat.not_lt_zero _)
 | x::l,f,h=>by
  unfold posL at h⊢
  split
  ·rename_i e
   rw [e] at h
   simp only [List.length_cons] at h
   exact posL_at l f (by omega)
  ·rename_i e;exact e
theorem insL_eq : ∀ (l:List Fact) (f:Fact),insL l f=match Nat.blt (posL l f) l.length&&atF (getL l (posL l f)) f with
  | true=>l
  | false=>l.take (posL l f)++f::l.drop (posL l f)
 | [],f=>rfl
 | x::l,f=>by
  have ih:=insL_eq l f
  unfold insL posL
  cases e:ltF x f with
  | true=>
   simp only
   rw [ih]
   have:(Nat.blt (posL l f+1) (x::l).length)=Nat.blt (posL l f) l.length:=by
    rw [Bool.eq_iff_iff];simp only [Nat.blt_eq,List.length_cons];omega
   have g:getL (x::l) (posL l f+1)=getL l (posL l f):=rfl
   rw [this,g]
   split<;>simp
  | false=>
   simp only
   have:Nat.blt 0 (x::l).length=true:=by rw [Nat.blt_eq];simp
   have g:getL (x::l) 0=x:=rfl
   rw [this,g,Bool.true_and]
   split<;>simp
theorem insL_get {l:List Fact} {f:Fact} (h:(Nat.blt (posL l f) l.length&&atF (getL l (posL l f)) f)=false) (i:Nat): getL (insL l f) i=if i<posL l f then getL l i else if i=posL l f then f else getL l (i-1):=by
 rw [insL_eq,h]
 have hp:=posL_le l f
 simp only [getL,List.getD_eq_getElem?_getD]
 have ht:(l.take (posL l f)).length=posL l f:=by simp;omega
 by_cases h1:i<posL l f
 ·rw [if_pos h1,List.getElem?_append_left (by omega),List.getElem?_take,if_pos h1]
 ·rw [if_neg h1,List.getElem?_append_right (by omega),ht]
  by_cases h2:i=posL l f
  ·rw [if_pos h2,h2,Nat.sub_self];rfl
  ·rw [if_neg h2]
   have:i-posL l f=(i-1-posL l f)+1:=by omega
   rw [this,List.getElem?_cons_succ,List.getElem?_drop]
   congr 2;omega
theorem insL_len {l:List Fact} {f:Fact} (h:(Nat.blt (posL l f) l.length&&atF (getL l (posL l f)) f)=false): (insL l f).length=l.length+1:=by
 rw [insL_eq,h]
 have hp:=posL_le l f
 simp only [List.length_append,List.length_take,List.length_cons,List.length_drop];omega
def madeL (X:Nat→Nat→Int): Nat→List Fact
 | 0=>[]
 | i+1=>insL (madeL X i) (mkFact (X i 0) (X i 1) (X i 2) (X i 3))
theorem insL_le (l:List Fact) (f:Fact): (insL l f).length≤l.length+1:=by
 cases h:(Nat.blt (posL l f) l.length&&atF (getL l (posL l f)) f) with
 | true=>rw [insL_eq,h];simp
 | false=>rw [insL_len h];exact Nat.le_refl _
theorem madeL_len (X:Nat→Nat→Int): ∀ i,(madeL X i).length≤i
 | 0=>Nat.le_refl _
 | i+1=>by have:=insL_le (madeL X i) (mkFact (X i 0) (X i 1) (X i 2) (X i 3));have:=madeL_len X i;unfold madeL;omega
def small (x:Fact): Prop:=(0≤x.t∧x.t<30)∧(0≤x.s∧x.s<4)∧(0≤x.v∧x.v<2)∧(0≤x.w∧x.w<3)∧(0≤x.o∧x.o<4)∧(-1≤x.p∧x.p<4)∧x.d=Int.tdiv x.t 10∧0≤x.l∧x.l≤x.h∧x.h<2199023255552+60∧(0≤x.b∧x.b<100)
theorem mkLow_lt (c d:Int): 0≤mkLow c d∧mkLow c d<2199023255552:=by
 unfold mkLow
 split
 ·exact pickF_lt (by omega)
 ·have:=pickF_lt (c:=c) (n:=40) (by omega);omega
theorem mul_small {x y:Int} (h1:0≤x) (h2:x<3) (h3:0≤y) (h4:y<30): 0≤x*y∧x*y≤58:=by
 have:x=0∨x=1∨x=2:=by omega
 rcases this with rfl | rfl | rfl<;>omega
theorem mkFact_small (a b c d:Int): small (mkFact a b c d):=by
 have h1:=pickF_lt (c:=a) (n:=30) (by omega)
 have h2:=pickF_lt (c:=Int.tdiv a 30) (n:=4) (by omega)
 have h3:=pickF_lt (c:=b) (n:=2) (by omega)
 have h4:=pickF_lt (c:=Int.tdiv b 2) (n:=3) (by omega)
 have h5:=pickF_lt (c:=Int.tdiv b 3000) (n:=2) (by omega)
 have h6:=pickF_lt (c:=Int.tdiv b 6) (n:=5) (by omega)
 have h7:=pickF_lt (c:=Int.tdiv b 30) (n:=100) (by omega)
 have h8:=mkLow_lt c d
 have h9:=pickF_lt (c:=Int.tdiv d 4) (n:=3) (by omega)
 have h10:=pickF_lt (c:=Int.tdiv d 12) (n:=30) (by omega)
 have h11:=mul_small h9.1 h9.2 h10.1 h10.2
 simp only [small,mkFact]
 generalize pickF (Int.tdiv d 4) 3*pickF (Int.tdiv d 12) 30=m at*
 refine ⟨h1,h2,h3,h4,?_,?_,trivial,h8.1,?_,?_,h7⟩<;>omega
theorem insL_mem {l:List Fact} {f y:Fact} (h:y∈insL l f): y=f∨y∈l:=by
 induction l with
 | nil=>simp only [insL,List.mem_singleton] at h;exact .inl h
 | cons x l ih=>
  unfold insL at h
  split at h
  ·rcases List.mem_cons.1 h with rfl | h
   ·exact .inr List.mem_cons_self
   ·rcases ih h with h | h
    ·exact .inl h
    ·exact .inr (List.mem_cons_of_mem _ h)
  ·split at h
   ·exact .inr h
   ·rcases List.mem_cons.1 h with h | h
    ·exact .inl h
    ·exact .inr h
theorem madeL_small (X:Nat→Nat→Int): ∀ i y,y∈madeL X i→small y
 | 0,y,h=>by simp [madeL] at h
 | i+1,y,h=>by
  unfold madeL at h
  rcases insL_mem h with rfl | h
  ·exact mkFact_small _ _ _ _
  ·exact madeL_small X i y h
def ordL:List Fact→Prop
 | []=>True
 | x::l=>(∀ y∈l,ltF x y=true)∧ordL l
theorem ltF_trans {a b c:Fact} (h1:ltF a b=true) (h2:ltF b c=true): ltF a c=true:=by
 simp only [ltF,Bool.or_eq_true,Bool.and_eq_true,decide_eq_true_eq] at*;omega
theorem ltF_total {a b:Fact} (h1:ltF a b=false) (h2:atF a b=false): ltF b a=true:=by
 simp only [ltF,atF,Bool.or_eq_false_iff,Bool.and_eq_false_iff,decide_eq_false_iff_not,Bool.or_eq_true,Bool.and_eq_true,decide_eq_true_eq] at*;omega
theorem insL_ord : ∀ (l:List Fact) (f:Fact),ordL l→ordL (insL l f)
 | [],f,_=>⟨fun _ h=>(by cases h),trivial⟩
 | x::l,f,h=>by
  unfold insL
  cases e:ltF x f with
  | true=>
   refine ⟨fun y hy=>?_,insL_ord l f h.2⟩
   rcases insL_mem hy with rfl | hy
   ·exact e
   ·exact h.1 y hy
  | false=>
   simp only
   cases e2:atF x f with
   | true=>exact h
   | false=>
    have:=ltF_total e e2
    refine ⟨fun y hy=>?_,h⟩
    rcases List.mem_cons.1 hy with rfl | hy
    ·exact this
    ·exact ltF_trans this (h.1 y hy)
theorem madeL_ord (X:Nat→Nat→Int): ∀ i,ordL (madeL X i)
 | 0=>trivial
 | i+1=>insL_ord _ _ (madeL_ord X i)
theorem ordL_get : ∀ (l:List Fact) (i:Nat),ordL l→i+1<l.length→ltF (getL l i) (getL l (i+1))=true
 | [],_,_,h=>by simp at h
 | [_],_,_,h=>by simp at h
 | x::y::l,0,h,_=>h.1 y List.mem_cons_self
 | x::y::l,i+1,h,hi=>ordL_get (y::l) i h.2 (by simp only [List.length_cons] at*;omega)
theorem getL_mem {l:List Fact} {i:Nat} (h:i<l.length): getL l i∈l:=by
 simp only [getL,List.getD_eq_getElem?_getD,List.getElem?_eq_getElem h,Option.getD_some]
 exact List.getElem_mem h
end Go.Sx
end
section
set_option maxRecDepth 1000000
namespace Go.Sx
open Go
noncomputable abbrev kPick29:Known PP II:=kPick 29 (.inl rfl)
def xRow (X:Nat→Nat→Int) (j:Nat): List AV:=[.int .i64 (X j 0),.int .i64 (X j 1),.int .i64 (X j 2),.int .i64 (X j 3)]
def xAV (n:Nat) (X:Nat→Nat→Int): AV:=.fslice n 4 (xRow X)
def factsB (m:Nat) (F:Nat→Fact): ABlk:=.rows m 10 (fun j=>factAV (F j)) (.ty 43)
def outV (e:Bool) (m:Nat): AV:=match e with | true=> .nilSlice | false=> .own 12 m 10
def outB (e:Bool) (m:Nat) (F:Nat→Fact): List (Nat×ABlk):=match e with | true=>[] | false=>[(12,factsB m F)]
structure Made where
 (i:Int) (e:Bool) (m:Nat) (F:Nat→Fact)
noncomputable def s10 (n:Nat) (X:Nat→Nat→Int) (p:Made): St:={t:=Tr.ofList [(0,xAV n X),(3,outV p.e p.m),(4,.int .i64 p.i)],nt:=186,H:={n:=13,t:=Tr.ofList (outB p.e p.m p.F)},df:=[]}
noncomputable def e10 (n:Nat) (X:Nat→Nat→Int) (e:Bool) (i:Int) (m:Nat) (F:Nat→Fact): GE:=.cond e (.one (.x 0 (s10 n X ⟨i,true,m,F⟩))) (.one (.x 0 (s10 n X ⟨i,false,m,F⟩)))
noncomputable def s10b (n:Nat) (X:Nat→Nat→Int) (p:Made) (f:Fact) (k:Int): St:={t:=Tr.ofList [(0,xAV n X),(3,outV p.e p.m),(4,.int .i64 p.i),(5,.ptr 61 0 0 0),(6,.int .i64 k)],nt:=186,H:={n:=96,t:=Tr.ofList ((61,.cells (factAV f) (.ty 43))::outB p.e p.m p.F)},df:=[]}
noncomputable def e10b (n:Nat) (X:Nat→Nat→Int) (p:Made) (f:Fact) (k:Int): GE:=.one (.x 2 (s10b n X p f k))
theorem place_step0 (n:Nat) (X:Nat→Nat→Int) (i:Int) (m:Nat) (F:Nat→Fact) (f:Fact) (K:Int) (k:Int) (Q:Prop): (kr [] [] 10 12034 96 (s10b n X ⟨i,true,m,F⟩ f) (fun _=>e10b n X ⟨i,true,m,F⟩ f K) (fun k=>k+1) Q k)=(Cond (decide (k<0)) False (EqI f.t f.t (EqI f.s f.s (EqI f.v f.v (EqI f.w f.w (EqI f.o f.o (EqI f.p f.p (EqI f.d f.d (EqI f.l f.l (EqI f.h f.h (EqI f.b f.b (EqN n n (RowsLe n (xRow X) (xRow X)∧EqI i i (EqI k K True)))))))))))))):=by kernel_rfl
theorem place_step (n : Nat) (X : Nat → Nat → Int) (i : Int) (m : Nat) (F : Nat → Fact) (f : Fact) (K : Int) (k : Int) (Q : Prop) : (kr [] [] 10 12034 96 (s10b n X ⟨i, false, m, F⟩ f) (fun _ => e10b n X ⟨i, false, m, F⟩ f K) (fun k => k + 1) Q k) = (Cond (decide (k < Int.ofNat m)) (Asks (decide (0 ≤ k) && decide (k < Int.ofNat m)) (Asks (decide (Int.toNat k < m)) (Cond (decide (Fact.t (F (Int.toNat k)) < f.t)) (Asks (inR .i64 (k + 1)) (EqI f.t f.t (EqI f.s f.s (EqI f.v f.v (EqI f.w f.w (EqI f.o f.o (EqI f.p f.p (EqI f.d f.d (EqI f.l f.l (EqI f.h f.h (EqI f.b f.b (EqN m m ((RowsLe m (fun j => factAV (F j)) fun j => factAV (F j)) ∧ EqN m m (EqN n n (RowsLe n (xRow X) (xRow X) ∧ EqI i i (EqI (k + 1) (k + 1) Q)))))))))))))))) (Asks (decide (0 ≤ k) && decide (k < Int.ofNat m)) (Asks (decide (Int.toNat k < m)) (Cond (decide (Fact.t (F (Int.toNat k)) = f.t)) (Asks (decide (0 ≤ k) && decide (k <
 Int.ofNat m)) (Asks (decide (Int.toNat k < m)) (Cond (decide (Fact.s (F (Int.toNat k)) < f.s)) (Asks (inR .i64 (k + 1)) (EqI f.t f.t (EqI f.s f.s (EqI f.v f.v (EqI f.w f.w (EqI f.o f.o (EqI f.p f.p (EqI f.d f.d (EqI f.l f.l (EqI f.h f.h (EqI f.b f.b (EqN m m ((RowsLe m (fun j => factAV (F j)) fun j => factAV (F j)) ∧ EqN m m (EqN n n (RowsLe n (xRow X) (xRow X) ∧ EqI i i (EqI (k + 1) (k + 1) Q)))))))))))))))) (EqI f.t f.t (EqI f.s f.s (EqI f.v f.v (EqI f.w f.w (EqI f.o f.o (EqI f.p f.p (EqI f.d f.d (EqI f.l f.l (EqI f.h f.h (EqI f.b f.b (EqN m m ((RowsLe m (fun j => factAV (F j)) fun j => factAV (F j)) ∧ EqN m m (EqN n n (RowsLe n (xRow X) (xRow X) ∧ EqI i i (EqI k K True)))))))))))))))))) (EqI f.t f.t (EqI f.s f.s (EqI f.v f.v (EqI f.w f.w (EqI f.o f.o (EqI f.p f.p (EqI f.d f.d (EqI f.l f.l (EqI f.h f.h (EqI f.b f.b (EqN m m ((RowsLe m (fun j => factAV (F j)) fun j => factAV (F j)) ∧
 EqN m m (EqN n n (RowsLe n (xRow X) (xRow X) ∧ EqI i i (EqI k K True))))))))))))))))))))) (EqI f.t f.t (EqI f.s f.s (EqI f.v f.v (EqI f.w f.w (EqI f.o f.o (EqI f.p f.p (EqI f.d f.d (EqI f.l f.l (EqI f.h f.h (EqI f.b f.b (EqN m m ((RowsLe m (fun j => factAV (F j)) fun j => factAV (F j)) ∧ EqN m m (EqN n n (RowsLe n (xRow X) (xRow X) ∧ EqI i i (EqI k K True)))))))))))))))) := by kernel_rfl
theorem made_step0 (n : Nat) (X : Nat → Nat → Int) (i : Int) (m m' : Nat) (F F' : Nat → Fact) (f : Fact) (i' iN : Int) (eN : Bool) (mN : Nat) (FN : Nat → Fact) (Q : Prop) : (kr [kPick29] [(12034, 96, s10b n X ⟨i, true, m, F⟩ f 0, e10b n X ⟨i, true, m, F⟩ f 0)] 10 3008 12 (s10 n X) (fun _ => e10 n X eN iN mN FN) (fun _ => ⟨i', false, m', F'⟩) Q ⟨i, true, m, F⟩) = (let zz1 := (EqI (pickF (Int.tdiv (X (Int.toNat i) 1) 30) 100) f.b (EqN n n (RowsLe n (xRow X) (xRow X) ∧ EqI i i (Asks (inR .i64 (i + 1)) (EqN 10 (m' * 10) ((RowsLe m' (cutRow [AV.int .i64 f.t, AV.int .i64 f.s, AV.int .i64 f.v, AV.int .i64 f.w, AV.int .i64 f.o, AV.int .i64 f.p, AV.int .i64 f.d, AV.int .i64 f.l, AV.int .i64 f.h, AV.int .i64 f.b] 10) fun j => factAV (F' j)) ∧ EqN 1 m' (EqN n n (RowsLe n (xRow X) (xRow X) ∧ EqI (i + 1) i' Q)))))))); (Cond (decide (i < Int.ofNat n)) (Cond (decide (i < 40)) (Asks (decide (0 ≤ i) &&
 decide (i < Int.ofNat n)) (Asks (inR .i64 (X (Int.toNat i) 0) && true) (Asks (decide (0 ≤ i) && decide (i < Int.ofNat n)) (Asks (decide (X (Int.toNat i) 0 = X (Int.toNat i) 0)) (Asks (inR .i64 (Int.tdiv (X (Int.toNat i) 0) 30)) (Asks (inR .i64 (Int.tdiv (X (Int.toNat i) 0) 30) && true) (Asks (decide (0 ≤ i) && decide (i < Int.ofNat n)) (Asks (decide (X (Int.toNat i) 1 = X (Int.toNat i) 1)) (Asks (decide (X (Int.toNat i) 1 = X (Int.toNat i) 1)) (Asks (inR .i64 (X (Int.toNat i) 1) && true) (Asks (decide (0 ≤ i) && decide (i < Int.ofNat n)) (Asks (decide (X (Int.toNat i) 1 = X (Int.toNat i) 1)) (Asks (decide (X (Int.toNat i) 1 = X (Int.toNat i) 1)) (Asks (decide (X (Int.toNat i) 1 = X (Int.toNat i) 1)) (Asks (inR .i64 (Int.tdiv (X (Int.toNat i) 1) 2)) (Asks (inR .i64 (Int.tdiv (X (Int.toNat i) 1) 2) && true) (Asks (decide (0 ≤ i) && decide (i < Int.ofNat n)) (Asks (decide (X (Int.toNat i) 1
 = X (Int.toNat i) 1)) (Asks (decide (X (Int.toNat i) 1 = X (Int.toNat i) 1)) (Asks (decide (X (Int.toNat i) 1 = X (Int.toNat i) 1)) (Asks (decide (X (Int.toNat i) 1 = X (Int.toNat i) 1)) (Asks (inR .i64 (Int.tdiv (X (Int.toNat i) 1) 6)) (Asks (inR .i64 (Int.tdiv (X (Int.toNat i) 1) 6) && true) (Asks (inR .i64 (pickF (Int.tdiv (X (Int.toNat i) 1) 6) 5 - 1)) (Asks (decide (0 ≤ i) && decide (i < Int.ofNat n)) (Asks (decide (X (Int.toNat i) 2 = X (Int.toNat i) 2)) (Asks (decide (X (Int.toNat i) 2 = X (Int.toNat i) 2)) (Asks (decide (X (Int.toNat i) 2 = X (Int.toNat i) 2)) (Asks (decide (X (Int.toNat i) 2 = X (Int.toNat i) 2)) (Asks (decide (X (Int.toNat i) 2 = X (Int.toNat i) 2)) (Asks (inR .i64 (X (Int.toNat i) 2) && true) (Asks (decide (0 ≤ i) && decide (i < Int.ofNat n)) (Asks (decide (X (Int.toNat i) 1 = X (Int.toNat i) 1)) (Asks (decide (X (Int.toNat i) 1 = X (Int.toNat i) 1)) (Asks
 (decide (X (Int.toNat i) 1 = X (Int.toNat i) 1)) (Asks (decide (X (Int.toNat i) 1 = X (Int.toNat i) 1)) (Asks (decide (X (Int.toNat i) 1 = X (Int.toNat i) 1)) (Asks (decide (X (Int.toNat i) 1 = X (Int.toNat i) 1)) (Asks (inR .i64 (Int.tdiv (X (Int.toNat i) 1) 30)) (Asks (inR .i64 (Int.tdiv (X (Int.toNat i) 1) 30) && true) (Asks (inR .i64 (2 * pickF (X (Int.toNat i) 1) 2)) (Asks (decide (0 ≤ i) && decide (i < Int.ofNat n)) (Asks (inR .i64 (Int.tdiv (X (Int.toNat i) 1) 3000)) (Asks (inR .i64 (Int.tdiv (X (Int.toNat i) 1) 3000) && true) (Asks (decide (pickF (X (Int.toNat i) 1) 2 = pickF (X (Int.toNat i) 1) 2)) (Asks (inR .i64 (2 * pickF (X (Int.toNat i) 1) 2 + pickF (Int.tdiv (X (Int.toNat i) 1) 3000) 2)) (Asks (decide (0 ≤ i) && decide (i < Int.ofNat n)) (Asks (inR .i64 (X (Int.toNat i) 3) && true) (Cond (decide (pickF (X (Int.toNat i) 3) 4 = 3)) (Asks (decide (0 ≤ i) && decide (i <
 Int.ofNat n)) (Asks (inR .i64 (X (Int.toNat i) 2) && true) (Asks (decide (0 ≤ i) && decide (i < Int.ofNat n)) (Asks (inR .i64 (Int.tdiv (X (Int.toNat i) 3) 4)) (Asks (inR .i64 (Int.tdiv (X (Int.toNat i) 3) 4) && true) (Asks (decide (pickF (X (Int.toNat i) 2) 2199023255552 = pickF (X (Int.toNat i) 2) 2199023255552)) (Asks (decide (0 ≤ i) && decide (i < Int.ofNat n)) (Asks (decide (X (Int.toNat i) 3 = X (Int.toNat i) 3)) (Asks (inR .i64 (Int.tdiv (X (Int.toNat i) 3) 12)) (Asks (inR .i64 (Int.tdiv (X (Int.toNat i) 3) 12) && true) (Asks (decide (pickF (X (Int.toNat i) 2) 2199023255552 = pickF (X (Int.toNat i) 2) 2199023255552)) (Asks (inR .i64 (pickF (Int.tdiv (X (Int.toNat i) 3) 4) 3 * pickF (Int.tdiv (X (Int.toNat i) 3) 12) 30)) (Asks (inR .i64 (pickF (X (Int.toNat i) 2) 2199023255552 + pickF (Int.tdiv (X (Int.toNat i) 3) 4) 3 * pickF (Int.tdiv (X (Int.toNat i) 3) 12) 30)) (Asks (inR .i64
 (Int.tdiv (pickF (X (Int.toNat i) 0) 30) 10)) (LoopAt PP II false (loopOf II 10 12034) 96 { t := .n (.n (.n .e (some AV.nilSlice) .e) none (.n .e (some (AV.ptr 61 0 0 0)) .e)) (some (AV.fslice n 4 (xRow X))) (.n (.n .e (some (AV.int .i64 i)) .e) none (.n .e (some (AV.int .i64 0)) .e)), nt := 186, H := { n := 96, t := .n (.n .e none (.n .e none (.n .e none (.n .e none (.n .e (some (ABlk.cells (factAV f) (Access.ty 43))) .e))))) none .e }, df := [] } (GE.one (AExit.x 2 { t := .n (.n (.n .e (some AV.nilSlice) .e) none (.n .e (some (AV.ptr 61 0 0 0)) .e)) (some (AV.fslice n 4 (xRow X))) (.n (.n .e (some (AV.int .i64 i)) .e) none (.n .e (some (AV.int .i64 0)) .e)), nt := 186, H := { n := 96, t := .n (.n .e none (.n .e none (.n .e none (.n .e none (.n .e (some (ABlk.cells (factAV f) (Access.ty 43))) .e))))) none .e }, df := [] })) ∧ EqI (pickF (X (Int.toNat i) 0) 30) f.t (EqI (pickF (Int.tdiv
 (X (Int.toNat i) 0) 30) 4) f.s (EqI (pickF (X (Int.toNat i) 1) 2) f.v (EqI (pickF (Int.tdiv (X (Int.toNat i) 1) 2) 3) f.w (EqI (2 * pickF (X (Int.toNat i) 1) 2 + pickF (Int.tdiv (X (Int.toNat i) 1) 3000) 2) f.o (EqI (pickF (Int.tdiv (X (Int.toNat i) 1) 6) 5 - 1) f.p (EqI (Int.tdiv (pickF (X (Int.toNat i) 0) 30) 10) f.d (EqI (pickF (X (Int.toNat i) 2) 2199023255552) f.l (EqI (pickF (X (Int.toNat i) 2) 2199023255552 + pickF (Int.tdiv (X (Int.toNat i) 3) 4) 3 * pickF (Int.tdiv (X (Int.toNat i) 3) 12) 30) f.h zz1))))))))))))))))))))))) (Asks (decide (0 ≤ i) && decide (i < Int.ofNat n)) (Asks (inR .i64 (Int.tdiv (X (Int.toNat i) 3) 4)) (Asks (inR .i64 (Int.tdiv (X (Int.toNat i) 3) 4) && true) (Asks (decide (pickF (X (Int.toNat i) 2) 40 = pickF (X (Int.toNat i) 2) 40)) (Asks (decide (0 ≤ i) && decide (i < Int.ofNat n)) (Asks (decide (X (Int.toNat i) 3 = X (Int.toNat i) 3)) (Asks (inR .i64
 (Int.tdiv (X (Int.toNat i) 3) 12)) (Asks (inR .i64 (Int.tdiv (X (Int.toNat i) 3) 12) && true) (Asks (decide (pickF (X (Int.toNat i) 2) 40 = pickF (X (Int.toNat i) 2) 40)) (Asks (inR .i64 (pickF (Int.tdiv (X (Int.toNat i) 3) 4) 3 * pickF (Int.tdiv (X (Int.toNat i) 3) 12) 30)) (Asks (inR .i64 (pickF (X (Int.toNat i) 2) 40 + pickF (Int.tdiv (X (Int.toNat i) 3) 4) 3 * pickF (Int.tdiv (X (Int.toNat i) 3) 12) 30)) (Asks (inR .i64 (Int.tdiv (pickF (X (Int.toNat i) 0) 30) 10)) (LoopAt PP II false (loopOf II 10 12034) 96 { t := .n (.n (.n .e (some AV.nilSlice) .e) none (.n .e (some (AV.ptr 61 0 0 0)) .e)) (some (AV.fslice n 4 (xRow X))) (.n (.n .e (some (AV.int .i64 i)) .e) none (.n .e (some (AV.int .i64 0)) .e)), nt := 186, H := { n := 96, t := .n (.n .e none (.n .e none (.n .e none (.n .e none (.n .e (some (ABlk.cells (factAV f) (Access.ty 43))) .e))))) none .e }, df := [] } (GE.one (AExit.x 2
 { t := .n (.n (.n .e (some AV.nilSlice) .e) none (.n .e (some (AV.ptr 61 0 0 0)) .e)) (some (AV.fslice n 4 (xRow X))) (.n (.n .e (some (AV.int .i64 i)) .e) none (.n .e (some (AV.int .i64 0)) .e)), nt := 186, H := { n := 96, t := .n (.n .e none (.n .e none (.n .e none (.n .e none (.n .e (some (ABlk.cells (factAV f) (Access.ty 43))) .e))))) none .e }, df := [] })) ∧ EqI (pickF (X (Int.toNat i) 0) 30) f.t (EqI (pickF (Int.tdiv (X (Int.toNat i) 0) 30) 4) f.s (EqI (pickF (X (Int.toNat i) 1) 2) f.v (EqI (pickF (Int.tdiv (X (Int.toNat i) 1) 2) 3) f.w (EqI (2 * pickF (X (Int.toNat i) 1) 2 + pickF (Int.tdiv (X (Int.toNat i) 1) 3000) 2) f.o (EqI (pickF (Int.tdiv (X (Int.toNat i) 1) 6) 5 - 1) f.p (EqI (Int.tdiv (pickF (X (Int.toNat i) 0) 30) 10) f.d (EqI (pickF (X (Int.toNat i) 2) 40) f.l (EqI (pickF (X (Int.toNat i) 2) 40 + pickF (Int.tdiv (X (Int.toNat i) 3) 4) 3 * pickF (Int.tdiv (X (Int.toNat
 i) 3) 12) 30) f.h zz1)))))))))))))))))))))))))))))))))))))))))))))))))))))))))))))))))))))) (Cond eN (EqN n n (RowsLe n (xRow X) (xRow X) ∧ EqI i iN True)) (EqN mN 0 (EqN mN 0 (EqN n n (RowsLe n (xRow X) (xRow X) ∧ EqI i iN True)))))) (Cond eN (EqN n n (RowsLe n (xRow X) (xRow X) ∧ EqI i iN True)) (EqN mN 0 (EqN mN 0 (EqN n n (RowsLe n (xRow X) (xRow X) ∧ EqI i iN True))))))) := by kernel_rfl
theorem made_step (n : Nat) (X : Nat → Nat → Int) (i : Int) (m m' : Nat) (F F' : Nat → Fact) (f : Fact) (K i' iN : Int) (eN : Bool) (mN : Nat) (FN : Nat → Fact) (Q : Prop) : (kr [kPick29] [(12034, 96, s10b n X ⟨i, false, m, F⟩ f 0, e10b n X ⟨i, false, m, F⟩ f K)] 10 3008 12 (s10 n X) (fun _ => e10 n X eN iN mN FN) (fun _ => ⟨i', false, m', F'⟩) Q ⟨i, false, m, F⟩) = (let zz1 := (Asks (decide (0 ≤ K) && decide (K ≤ K) && decide (K ≤ Int.ofNat m) && decide (0 < m)) (Asks (decide (0 ≤ K) && decide (K ≤ Int.ofNat m) && decide (Int.ofNat m ≤ Int.ofNat m) && decide (0 < m)) (Asks (decide (Int.toNat K + Int.toNat (Int.ofNat m - K) ≤ m) && true && decide ((1 + Int.toNat (Int.ofNat m - K)) * 80 ≤ 140737488355328) && true) (Cond (decide (Int.toNat (Int.ofNat m - K) = 0)) (Asks (decide (0 ≤ K) && decide (K ≤ K) && decide (K ≤ Int.ofNat m) && decide (0 < m)) (Asks (decide (Int.toNat (K - 0) =
 Int.toNat (K - 0)) && decide (some (Int.toNat (K - 0)) = some (Int.toNat (K - 0))) && true) (Asks (decide (0 + Int.toNat (K - 0) ≤ m) && true && true && decide ((Int.toNat (K - 0) + 1) * 80 ≤ 140737488355328) && true) (Cond (decide (Int.toNat (K - 0) = Int.toNat (K - 0))) (Asks (inR .i64 (i + 1)) (EqN (Int.toNat (K - 0) + 1) m' ((RowsLe (Int.toNat (K - 0) + 1) (fun i => bif Nat.blt i (Int.toNat (K - 0)) then factAV (F (0 + i)) else List.take 10 (List.drop (0 + (i - Int.toNat (K - 0)) * 10) [AV.int .i64 f.t, AV.int .i64 f.s, AV.int .i64 f.v, AV.int .i64 f.w, AV.int .i64 f.o, AV.int .i64 f.p, AV.int .i64 f.d, AV.int .i64 f.l, AV.int .i64 f.h, AV.int .i64 f.b])) fun j => factAV (F' j)) ∧ EqN (Int.toNat (K - 0) + 1) m' (EqN n n (RowsLe n (xRow X) (xRow X) ∧ EqI (i + 1) i' Q))))) (Asks (inR .i64 (i + 1)) (EqN (Int.toNat (K - 0) + 1) m' ((RowsLe (Int.toNat (K - 0) + 1) (fun i => bif Nat.blt i
 (Int.toNat (K - 0)) then factAV (F (0 + i)) else List.take 10 (List.drop (0 + (i - Int.toNat (K - 0)) * 10) [AV.int .i64 f.t, AV.int .i64 f.s, AV.int .i64 f.v, AV.int .i64 f.w, AV.int .i64 f.o, AV.int .i64 f.p, AV.int .i64 f.d, AV.int .i64 f.l, AV.int .i64 f.h, AV.int .i64 f.b])) fun j => factAV (F' j)) ∧ EqN (Int.toNat (K - 0) + 1) m' (EqN n n (RowsLe n (xRow X) (xRow X) ∧ EqI (i + 1) i' Q))))))))) (Asks (decide (0 ≤ K) && decide (K ≤ K) && decide (K ≤ Int.ofNat m) && decide (0 < m)) (Asks (decide (Int.toNat (K - 0) = Int.toNat (K - 0)) && decide (some (Int.toNat (K - 0)) = some (Int.toNat (K - 0))) && true) (Asks (decide (0 + Int.toNat (K - 0) ≤ m) && decide (1 + Int.toNat (Int.ofNat m - K) ≤ 1 + Int.toNat (Int.ofNat m - K)) && true && decide ((Int.toNat (K - 0) + (1 + Int.toNat (Int.ofNat m - K))) * 80 ≤ 140737488355328) && true) (Cond (decide (1 + Int.toNat (Int.ofNat m - K) = 0))
 (Asks (inR .i64 (i + 1)) (EqN m' 0 False)) (Cond (decide (Int.toNat (K - 0) = Int.toNat (K - 0))) (Asks (inR .i64 (i + 1)) (EqN (Int.toNat (K - 0) + (1 + Int.toNat (Int.ofNat m - K))) m' ((RowsLe (Int.toNat (K - 0) + (1 + Int.toNat (Int.ofNat m - K))) (fun i => bif Nat.blt i (Int.toNat (K - 0)) then factAV (F (0 + i)) else bif Nat.blt (i - Int.toNat (K - 0)) 1 then List.take 10 (List.drop (0 + (i - Int.toNat (K - 0)) * 10) [AV.int .i64 f.t, AV.int .i64 f.s, AV.int .i64 f.v, AV.int .i64 f.w, AV.int .i64 f.o, AV.int .i64 f.p, AV.int .i64 f.d, AV.int .i64 f.l, AV.int .i64 f.h, AV.int .i64 f.b]) else factAV (F (Int.toNat K + (i - Int.toNat (K - 0) - 1)))) fun j => factAV (F' j)) ∧ EqN (Int.toNat (K - 0) + (1 + Int.toNat (Int.ofNat m - K))) m' (EqN n n (RowsLe n (xRow X) (xRow X) ∧ EqI (i + 1) i' Q))))) (Asks (inR .i64 (i + 1)) (EqN (Int.toNat (K - 0) + (1 + Int.toNat (Int.ofNat m - K))) m'
 ((RowsLe (Int.toNat (K - 0) + (1 + Int.toNat (Int.ofNat m - K))) (fun i => bif Nat.blt i (Int.toNat (K - 0)) then factAV (F (0 + i)) else bif Nat.blt (i - Int.toNat (K - 0)) 1 then List.take 10 (List.drop (0 + (i - Int.toNat (K - 0)) * 10) [AV.int .i64 f.t, AV.int .i64 f.s, AV.int .i64 f.v, AV.int .i64 f.w, AV.int .i64 f.o, AV.int .i64 f.p, AV.int .i64 f.d, AV.int .i64 f.l, AV.int .i64 f.h, AV.int .i64 f.b]) else factAV (F (Int.toNat K + (i - Int.toNat (K - 0) - 1)))) fun j => factAV (F' j)) ∧ EqN (Int.toNat (K - 0) + (1 + Int.toNat (Int.ofNat m - K))) m' (EqN n n (RowsLe n (xRow X) (xRow X) ∧ EqI (i + 1) i' Q)))))))))))))); (Cond (decide (i < Int.ofNat n)) (Cond (decide (i < 40)) (Asks (decide (0 ≤ i) && decide (i < Int.ofNat n)) (Asks (inR .i64 (X (Int.toNat i) 0) && true) (Asks (decide (0 ≤ i) && decide (i < Int.ofNat n)) (Asks (decide (X (Int.toNat i) 0 = X (Int.toNat i) 0)) (Asks
 (inR .i64 (Int.tdiv (X (Int.toNat i) 0) 30)) (Asks (inR .i64 (Int.tdiv (X (Int.toNat i) 0) 30) && true) (Asks (decide (0 ≤ i) && decide (i < Int.ofNat n)) (Asks (decide (X (Int.toNat i) 1 = X (Int.toNat i) 1)) (Asks (decide (X (Int.toNat i) 1 = X (Int.toNat i) 1)) (Asks (inR .i64 (X (Int.toNat i) 1) && true) (Asks (decide (0 ≤ i) && decide (i < Int.ofNat n)) (Asks (decide (X (Int.toNat i) 1 = X (Int.toNat i) 1)) (Asks (decide (X (Int.toNat i) 1 = X (Int.toNat i) 1)) (Asks (decide (X (Int.toNat i) 1 = X (Int.toNat i) 1)) (Asks (inR .i64 (Int.tdiv (X (Int.toNat i) 1) 2)) (Asks (inR .i64 (Int.tdiv (X (Int.toNat i) 1) 2) && true) (Asks (decide (0 ≤ i) && decide (i < Int.ofNat n)) (Asks (decide (X (Int.toNat i) 1 = X (Int.toNat i) 1)) (Asks (decide (X (Int.toNat i) 1 = X (Int.toNat i) 1)) (Asks (decide (X (Int.toNat i) 1 = X (Int.toNat i) 1)) (Asks (decide (X (Int.toNat i) 1 = X (Int.toNat i)
 1)) (Asks (inR .i64 (Int.tdiv (X (Int.toNat i) 1) 6)) (Asks (inR .i64 (Int.tdiv (X (Int.toNat i) 1) 6) && true) (Asks (inR .i64 (pickF (Int.tdiv (X (Int.toNat i) 1) 6) 5 - 1)) (Asks (decide (0 ≤ i) && decide (i < Int.ofNat n)) (Asks (decide (X (Int.toNat i) 2 = X (Int.toNat i) 2)) (Asks (decide (X (Int.toNat i) 2 = X (Int.toNat i) 2)) (Asks (decide (X (Int.toNat i) 2 = X (Int.toNat i) 2)) (Asks (decide (X (Int.toNat i) 2 = X (Int.toNat i) 2)) (Asks (decide (X (Int.toNat i) 2 = X (Int.toNat i) 2)) (Asks (inR .i64 (X (Int.toNat i) 2) && true) (Asks (decide (0 ≤ i) && decide (i < Int.ofNat n)) (Asks (decide (X (Int.toNat i) 1 = X (Int.toNat i) 1)) (Asks (decide (X (Int.toNat i) 1 = X (Int.toNat i) 1)) (Asks (decide (X (Int.toNat i) 1 = X (Int.toNat i) 1)) (Asks (decide (X (Int.toNat i) 1 = X (Int.toNat i) 1)) (Asks (decide (X (Int.toNat i) 1 = X (Int.toNat i) 1)) (Asks (decide (X (Int.toNat
 i) 1 = X (Int.toNat i) 1)) (Asks (inR .i64 (Int.tdiv (X (Int.toNat i) 1) 30)) (Asks (inR .i64 (Int.tdiv (X (Int.toNat i) 1) 30) && true) (Asks (inR .i64 (2 * pickF (X (Int.toNat i) 1) 2)) (Asks (decide (0 ≤ i) && decide (i < Int.ofNat n)) (Asks (inR .i64 (Int.tdiv (X (Int.toNat i) 1) 3000)) (Asks (inR .i64 (Int.tdiv (X (Int.toNat i) 1) 3000) && true) (Asks (decide (pickF (X (Int.toNat i) 1) 2 = pickF (X (Int.toNat i) 1) 2)) (Asks (inR .i64 (2 * pickF (X (Int.toNat i) 1) 2 + pickF (Int.tdiv (X (Int.toNat i) 1) 3000) 2)) (Asks (decide (0 ≤ i) && decide (i < Int.ofNat n)) (Asks (inR .i64 (X (Int.toNat i) 3) && true) (Cond (decide (pickF (X (Int.toNat i) 3) 4 = 3)) (Asks (decide (0 ≤ i) && decide (i < Int.ofNat n)) (Asks (inR .i64 (X (Int.toNat i) 2) && true) (Asks (decide (0 ≤ i) && decide (i < Int.ofNat n)) (Asks (inR .i64 (Int.tdiv (X (Int.toNat i) 3) 4)) (Asks (inR .i64 (Int.tdiv (X
 (Int.toNat i) 3) 4) && true) (Asks (decide (pickF (X (Int.toNat i) 2) 2199023255552 = pickF (X (Int.toNat i) 2) 2199023255552)) (Asks (decide (0 ≤ i) && decide (i < Int.ofNat n)) (Asks (decide (X (Int.toNat i) 3 = X (Int.toNat i) 3)) (Asks (inR .i64 (Int.tdiv (X (Int.toNat i) 3) 12)) (Asks (inR .i64 (Int.tdiv (X (Int.toNat i) 3) 12) && true) (Asks (decide (pickF (X (Int.toNat i) 2) 2199023255552 = pickF (X (Int.toNat i) 2) 2199023255552)) (Asks (inR .i64 (pickF (Int.tdiv (X (Int.toNat i) 3) 4) 3 * pickF (Int.tdiv (X (Int.toNat i) 3) 12) 30)) (Asks (inR .i64 (pickF (X (Int.toNat i) 2) 2199023255552 + pickF (Int.tdiv (X (Int.toNat i) 3) 4) 3 * pickF (Int.tdiv (X (Int.toNat i) 3) 12) 30)) (Asks (inR .i64 (Int.tdiv (pickF (X (Int.toNat i) 0) 30) 10)) (LoopAt PP II false (loopOf II 10 12034) 96 { t := .n (.n (.n .e (some (AV.own 12 m 10)) .e) none (.n .e (some (AV.ptr 61 0 0 0)) .e)) (some (AV.fslice n 4 (xRow X))) (.n (.n .e (some (AV.int .i64 i)) .e) none (.n .e (some (AV.int .i64 0)) .e)), nt := 186, H := { n := 96, t := .n (.n .e none (.n .e none (.n .e none (.n .e none (.n .e (some (ABlk.cells (factAV f) (Access.ty 43))) .e))))) none (.n (.n .e none (.n .e (some (ABlk.rows m 10 (fun j => factAV (F j)) (Access.ty 43))) .e)) none .e) }, df := [] }
 (GE.one (AExit.x 2 { t := .n (.n (.n .e (some (AV.own 12 m 10)) .e) none (.n .e (some (AV.ptr 61 0 0 0)) .e)) (some (AV.fslice n 4 (xRow X))) (.n (.n .e (some (AV.int .i64 i)) .e) none (.n .e (some (AV.int .i64 K)) .e)), nt := 186, H := { n := 96, t := .n (.n .e none (.n .e none (.n .e none (.n .e none (.n .e (some (ABlk.cells (factAV f) (Access.ty 43))) .e))))) none (.n (.n .e none (.n .e (some (ABlk.rows m 10 (fun j => factAV (F j)) (Access.ty 43))) .e)) none .e) }, df := [] })) ∧ EqI (pickF (X (Int.toNat i) 0) 30) f.t (EqI (pickF (Int.tdiv (X (Int.toNat i) 0) 30) 4) f.s (EqI (pickF (X (Int.toNat i) 1) 2) f.v (EqI (pickF (Int.tdiv (X (Int.toNat i) 1) 2) 3) f.w (EqI (2 * pickF (X (Int.toNat i) 1) 2 + pickF (Int.tdiv (X (Int.toNat i) 1) 3000) 2) f.o (EqI (pickF (Int.tdiv (X (Int.toNat i) 1) 6) 5 - 1) f.p (EqI (Int.tdiv (pickF (X (Int.toNat i) 0) 30) 10) f.d (EqI (pickF (X (Int.toNat i)
 2) 2199023255552) f.l (EqI (pickF (X (Int.toNat i) 2) 2199023255552 + pickF (Int.tdiv (X (Int.toNat i) 3) 4) 3 * pickF (Int.tdiv (X (Int.toNat i) 3) 12) 30) f.h (EqI (pickF (Int.tdiv (X (Int.toNat i) 1) 30) 100) f.b (EqN m m ((RowsLe m (fun j => factAV (F j)) fun j => factAV (F j)) ∧ EqN m m (EqN n n (RowsLe n (xRow X) (xRow X) ∧ EqI i i (Cond (decide (K < Int.ofNat m)) (Asks (decide (0 ≤ K) && decide (K < Int.ofNat m)) (Asks (decide (Int.toNat K < m)) (Cond (decide (Fact.t (F (Int.toNat K)) = f.t)) (Asks (decide (0 ≤ K) && decide (K < Int.ofNat m)) (Asks (decide (Int.toNat K < m)) (Cond (decide (Fact.s (F (Int.toNat K)) = f.s)) (Asks (inR .i64 (i + 1)) (EqN m m' ((RowsLe m (fun j => factAV (F j)) fun j => factAV (F' j)) ∧ EqN m m' (EqN n n (RowsLe n (xRow X) (xRow X) ∧ EqI (i + 1) i' Q))))) zz1))) zz1))) zz1))))))))))))))))))))))))))))) (Asks (decide (0 ≤ i) && decide (i < Int.ofNat n))
 (Asks (inR .i64 (Int.tdiv (X (Int.toNat i) 3) 4)) (Asks (inR .i64 (Int.tdiv (X (Int.toNat i) 3) 4) && true) (Asks (decide (pickF (X (Int.toNat i) 2) 40 = pickF (X (Int.toNat i) 2) 40)) (Asks (decide (0 ≤ i) && decide (i < Int.ofNat n)) (Asks (decide (X (Int.toNat i) 3 = X (Int.toNat i) 3)) (Asks (inR .i64 (Int.tdiv (X (Int.toNat i) 3) 12)) (Asks (inR .i64 (Int.tdiv (X (Int.toNat i) 3) 12) && true) (Asks (decide (pickF (X (Int.toNat i) 2) 40 = pickF (X (Int.toNat i) 2) 40)) (Asks (inR .i64 (pickF (Int.tdiv (X (Int.toNat i) 3) 4) 3 * pickF (Int.tdiv (X (Int.toNat i) 3) 12) 30)) (Asks (inR .i64 (pickF (X (Int.toNat i) 2) 40 + pickF (Int.tdiv (X (Int.toNat i) 3) 4) 3 * pickF (Int.tdiv (X (Int.toNat i) 3) 12) 30)) (Asks (inR .i64 (Int.tdiv (pickF (X (Int.toNat i) 0) 30) 10)) (LoopAt PP II false (loopOf II 10 12034) 96 { t := .n (.n (.n .e (some (AV.own 12 m 10)) .e) none (.n .e (some (AV.ptr 61 0 0 0)) .e)) (some (AV.fslice n 4 (xRow X))) (.n (.n .e (some (AV.int .i64 i)) .e) none (.n .e (some (AV.int .i64 0)) .e)), nt := 186, H := { n := 96, t := .n (.n .e none (.n .e none (.n .e none (.n .e none (.n .e (some (ABlk.cells (factAV f) (Access.ty 43))) .e))))) none (.n (.n .e none (.n .e (some (ABlk.rows m 10 (fun j => factAV (F j)) (Access.ty 43))) .e)) none .e) }, df := [] }
 (GE.one (AExit.x 2 { t := .n (.n (.n .e (some (AV.own 12 m 10)) .e) none (.n .e (some (AV.ptr 61 0 0 0)) .e)) (some (AV.fslice n 4 (xRow X))) (.n (.n .e (some (AV.int .i64 i)) .e) none (.n .e (some (AV.int .i64 K)) .e)), nt := 186, H := { n := 96, t := .n (.n .e none (.n .e none (.n .e none (.n .e none (.n .e (some (ABlk.cells (factAV f) (Access.ty 43))) .e))))) none (.n (.n .e none (.n .e (some (ABlk.rows m 10 (fun j => factAV (F j)) (Access.ty 43))) .e)) none .e) }, df := [] })) ∧ EqI (pickF (X (Int.toNat i) 0) 30) f.t (EqI (pickF (Int.tdiv (X (Int.toNat i) 0) 30) 4) f.s (EqI (pickF (X (Int.toNat i) 1) 2) f.v (EqI (pickF (Int.tdiv (X (Int.toNat i) 1) 2) 3) f.w (EqI (2 * pickF (X (Int.toNat i) 1) 2 + pickF (Int.tdiv (X (Int.toNat i) 1) 3000) 2) f.o (EqI (pickF (Int.tdiv (X (Int.toNat i) 1) 6) 5 - 1) f.p (EqI (Int.tdiv (pickF (X (Int.toNat i) 0) 30) 10) f.d (EqI (pickF (X (Int.toNat i)
 2) 40) f.l (EqI (pickF (X (Int.toNat i) 2) 40 + pickF (Int.tdiv (X (Int.toNat i) 3) 4) 3 * pickF (Int.tdiv (X (Int.toNat i) 3) 12) 30) f.h (EqI (pickF (Int.tdiv (X (Int.toNat i) 1) 30) 100) f.b (EqN m m ((RowsLe m (fun j => factAV (F j)) fun j => factAV (F j)) ∧ EqN m m (EqN n n (RowsLe n (xRow X) (xRow X) ∧ EqI i i (Cond (decide (K < Int.ofNat m)) (Asks (decide (0 ≤ K) && decide (K < Int.ofNat m)) (Asks (decide (Int.toNat K < m)) (Cond (decide (Fact.t (F (Int.toNat K)) = f.t)) (Asks (decide (0 ≤ K) && decide (K < Int.ofNat m)) (Asks (decide (Int.toNat K < m)) (Cond (decide (Fact.s (F (Int.toNat K)) = f.s)) (Asks (inR .i64 (i + 1)) (EqN m m' ((RowsLe m (fun j => factAV (F j)) fun j => factAV (F' j)) ∧ EqN m m' (EqN n n (RowsLe n (xRow X) (xRow X) ∧ EqI (i + 1) i' Q))))) zz1))) zz1))) zz1)))))))))))))))))))))))))))))))))))))))))))))))))))))))))))))))))))))))))))) (Cond eN False (EqN m mN
 ((RowsLe m (fun j => factAV (F j)) fun j => factAV (FN j)) ∧ EqN m mN (EqN n n (RowsLe n (xRow X) (xRow X) ∧ EqI i iN True)))))) (Cond eN False (EqN m mN ((RowsLe m (fun j => factAV (F j)) fun j => factAV (FN j)) ∧ EqN m mN (EqN n n (RowsLe n (xRow X) (xRow X) ∧ EqI i iN True))))))) := by kernel_rfl
theorem made10_vc (n : Nat) (X : Nat → Nat → Int) (iN : Int) (eN : Bool) (mN : Nat) (FN : Nat → Fact) (Q : AV → Prop) : (kb [] [(3008, 12, s10 n X ⟨0, true, 0, FN⟩, e10 n X eN iN mN FN)] 10 [xAV n X] Q) = (LoopAt PP II false (loopOf II 10 3008) 12 { t := .n (.n (.n .e (some AV.nilSlice) .e) none .e) (some (AV.fslice n 4 (xRow X))) (.n (.n .e (some (AV.int .i64 0)) .e) none .e), nt := 186, H := { n := 13, t := .e }, df := [] } (GE.cond eN (GE.one (AExit.x 0 { t := .n (.n (.n .e (some AV.nilSlice) .e) none .e) (some (AV.fslice n 4 (xRow X))) (.n (.n .e (some (AV.int .i64 iN)) .e) none .e), nt := 186, H := { n := 13, t := .e }, df := [] })) (GE.one (AExit.x 0 { t := .n (.n (.n .e (some (AV.own 12 mN 10)) .e) none .e) (some (AV.fslice n 4 (xRow X))) (.n (.n .e (some (AV.int .i64 iN)) .e) none .e), nt := 186, H := { n := 13, t := .n .e none (.n (.n .e none (.n .e (some (ABlk.rows mN 10 (fun j => factAV (FN j)) (Access.ty 43))) .e)) none .e) }, df := [] })))
 ∧ EqN n n (RowsLe n (xRow X) (xRow X) ∧ Cond eN (Q AV.nilSlice) (Asks ((List.all (List.range.loop mN []) fun i => true) && decide (mN ≤ mN)) (Q (AV.fslice mN 10 fun j => factAV (FN j)))))) := by kernel_rfl
end Go.Sx
end
section
set_option maxRecDepth 1000000
namespace Go.Sx
open Go
theorem Cond.mkP {p:Prop} [Decidable p] {x y:Prop} (h:p→x) (k : ¬ p→y): Cond (decide p) x y:=Cond.mk (fun e=>h (of_decide_eq_true e)) fun e=>k (of_decide_eq_false e)
theorem Asks.mk' (b:Bool) (x:Prop) (h:b=true) (k:x): Asks b x:=Asks.mk h k
theorem xRow_le (X:Nat→Nat→Int) (σ:Nat→Nat) (j:Nat): AVs.le σ (xRow X j) (xRow X j):=⟨⟨rfl,rfl⟩,⟨rfl,rfl⟩,⟨rfl,rfl⟩,⟨rfl,rfl⟩,trivial⟩
theorem xRows (n:Nat) (X:Nat→Nat→Int): RowsLe n (xRow X) (xRow X):=RowsLe.same fun σ j=>xRow_le X σ j
theorem fRows (m:Nat) (F:Nat→Fact): RowsLe m (fun j=>factAV (F j)) fun j=>factAV (F j):=RowsLe.same fun σ j=>factAV_le σ (F j)
theorem rows_of {m:Nat} {g:Nat→List AV} {F:Nat→Fact} (h : ∀ j,j<m→g j=factAV (F j)): RowsLe m g fun j=>factAV (F j):=fun j hj σ=>by rw [h j hj];exact factAV_le σ (F j)
theorem tdiv_inR {a k:Int} (h:inR .i64 a=true) (hk:0<k): inR .i64 (Int.tdiv a k)=true:=by
 rw [inR_iff] at*
 have key : ∀ b:Int,0≤b→0≤Int.tdiv b k∧Int.tdiv b k≤b:=fun b hb=>by
  rw [Int.tdiv_eq_ediv_of_nonneg hb]
  exact ⟨Int.ediv_nonneg hb (by omega),Int.ediv_le_self _ hb⟩
 by_cases ha:0≤a
 ·have:=key a ha;omega
 ·have h1:=key (-a) (by omega)
  rw [Int.neg_tdiv] at h1
  omega
theorem ltF_iff {x f:Fact}: ltF x f=true↔x.t<f.t∨(x.t=f.t∧x.s<f.s):=by
 simp only [ltF,Bool.or_eq_true,Bool.and_eq_true,decide_eq_true_eq]
theorem ltF_not {x f:Fact}: ltF x f=false↔ ¬ (x.t<f.t∨(x.t=f.t∧x.s<f.s)):=by
 rw [←ltF_iff];cases ltF x f<;>simp
theorem atF_iff {x f:Fact}: atF x f=true↔x.t=f.t∧x.s=f.s:=by
 simp only [atF,Bool.and_eq_true,decide_eq_true_eq]
theorem place_loop (n:Nat) (X:Nat→Nat→Int) (i:Int) (L:List Fact) (f:Fact) (hn:L.length≤1000):
  LoopAt PP II false (loopOf II 10 12034) 96 (s10b n X ⟨i,false,L.length,getL L⟩ f 0) (e10b n X ⟨i,false,L.length,getL L⟩ f (posL L f)):=
 LoopAt.of (ι:=Int) hII [] (lamT_ok PP II []) 1000 96 (fun k=>0≤k∧k≤posL L f) (s10b n X ⟨i,false,L.length,getL L⟩ f) (fun _=>e10b n X ⟨i,false,L.length,getL L⟩ f (posL L f)) (fun k=>(posL L f-k).toNat) (fun k=>k+1) 0 rfl ⟨Int.le_refl _,Int.natCast_nonneg _⟩ fun k hk=>by
  refine (place_step n X i _ _ f _ k _).mpr ?_
  have hp:=posL_le L f
  have e0:Int.ofNat L.length=(L.length:Int):=rfl
  have same : ∀ {Z:Prop},Z→EqI (Fact.t f) (Fact.t f) (EqI (Fact.s f) (Fact.s f) (EqI (Fact.v f) (Fact.v f) (EqI (Fact.w f) (Fact.w f) (EqI (Fact.o f) (Fact.o f) (EqI (Fact.p f) (Fact.p f) (EqI (Fact.d f) (Fact.d f) (EqI (Fact.l f) (Fact.l f) (EqI (Fact.h f) (Fact.h f) (EqI (Fact.b f) (Fact.b f)
    (EqN L.length L.length ((RowsLe L.length (fun j=>factAV (getL L j)) fun j=>factAV (getL L j))∧EqN L.length L.length (EqN n n (RowsLe n (xRow X) (xRow X)∧EqI i i Z))))))))))))):=fun z=>
   EqI.mk rfl (EqI.mk rfl (EqI.mk rfl (EqI.mk rfl (EqI.mk rfl (EqI.mk rfl (EqI.mk rfl (EqI.mk rfl (EqI.mk rfl (EqI.mk rfl (EqN.mk rfl ⟨fRows _ _,EqN.mk rfl (EqN.mk rfl ⟨xRows _ _,EqI.mk rfl z⟩)⟩))))))))))
  by_cases hlt:k<posL L f
  ·have h1:=posL_lt L f k.toNat (by omega)
   rw [ltF_iff] at h1
   have hb:(decide (0≤k)&&decide (k<Int.ofNat L.length))=true:=by simp only [Bool.and_eq_true,decide_eq_true_eq];omega
   have hc:decide (Int.toNat k<L.length)=true:=decide_eq_true (by omega)
   have hi:inR .i64 (k+1)=true:=inR_small (by omega) (by omega)
   have go:EqI (k+1) (k+1) ((0≤k+1∧k+1≤posL L f)∧(posL L f-(k+1)).toNat<(posL L f-k).toNat∧(e10b n X ⟨i,false,L.length,getL L⟩ f (posL L f)).pick=(e10b n X ⟨i,false,L.length,getL L⟩ f (posL L f)).pick):=EqI.mk rfl ⟨by omega,by omega,rfl⟩
   refine Cond.mkP (fun _=>Asks.mk hb (Asks.mk hc (Cond.mkP (fun h=>Asks.mk hi (same go)) fun h=>Asks.mk hb (Asks.mk hc (Cond.mkP (fun h2=>Asks.mk hb (Asks.mk hc (Cond.mkP (fun h3=>Asks.mk hi (same go)) fun h3=>?_))) fun h2=>?_))))) fun h=>?_
   ·exact absurd h1 (by omega)
   ·exact absurd h1 (by omega)
   ·exact absurd h (by omega)
  ·have hk':k=posL L f:=by omega
   have go:EqI k (posL L f) True:=EqI.mk hk' trivial
   refine Cond.mkP (fun h0=>?_) fun _=>same go
   have h1:=posL_at L f (by omega)
   rw [ltF_not] at h1
   have e1:k.toNat=posL L f:=by omega
   have hb:(decide (0≤k)&&decide (k<Int.ofNat L.length))=true:=by simp only [Bool.and_eq_true,decide_eq_true_eq];omega
   have hc:decide (Int.toNat k<L.length)=true:=decide_eq_true (by omega)
   rw [←e1] at h1
   refine Asks.mk hb (Asks.mk hc (Cond.mkP (fun h=>absurd h (by omega)) fun h=>Asks.mk hb (Asks.mk hc (Cond.mkP (fun h2=>Asks.mk hb (Asks.mk hc (Cond.mkP (fun h3=>absurd h3 (by omega)) fun h3=>same go))) fun h2=>same go))))
theorem place_loop0 (n:Nat) (X:Nat→Nat→Int) (i:Int) (m:Nat) (F:Nat→Fact) (f:Fact):
  LoopAt PP II false (loopOf II 10 12034) 96 (s10b n X ⟨i,true,m,F⟩ f 0) (e10b n X ⟨i,true,m,F⟩ f 0):=
 LoopAt.of (ι:=Int) hII [] (lamT_ok PP II []) 1000 96 (fun k=>k=0) (s10b n X ⟨i,true,m,F⟩ f) (fun _=>e10b n X ⟨i,true,m,F⟩ f 0) (fun k=>0) (fun k=>k+1) 0 rfl rfl fun k hk=>by
  refine (place_step0 n X i _ _ f _ k _).mpr ?_
  exact Cond.mkP (fun h=>absurd h (by omega)) fun _=>EqI.mk rfl (EqI.mk rfl (EqI.mk rfl (EqI.mk rfl (EqI.mk rfl (EqI.mk rfl (EqI.mk rfl (EqI.mk rfl (EqI.mk rfl (EqI.mk rfl (EqN.mk rfl ⟨xRows _ _,EqI.mk rfl (EqI.mk hk trivial)⟩))))))))))
theorem ins_rowsA {K N:Nat} {F G:Nat→Fact} {f:Fact} (hN:N≤K+1) (hG : ∀ i,G i=if i<K then F i else if i=K then f else F (i-1)):
  RowsLe N (fun i=>bif Nat.blt i K then factAV (F (0+i)) else List.take 10 (List.drop (0+(i-K)*10) (factAV f))) fun j=>factAV (G j):=by
 refine rows_of fun j hj=>?_
 rw [hG]
 by_cases h:j<K
 ·rw [if_pos h,(Nat.blt_eq ..).mpr h,cond_true,Nat.zero_add]
 ·have hj:j=K:=by omega
  have hb:Nat.blt j K=false:=by
   cases hb:Nat.blt j K with
   | false=>rfl
   | true=>exact absurd ((Nat.blt_eq ..).mp hb) h
  rw [if_neg h,if_pos hj,hb,cond_false,hj,Nat.sub_self]
  rfl
theorem ins_rowsB {K N:Nat} {F G:Nat→Fact} {f:Fact} (hG : ∀ i,G i=if i<K then F i else if i=K then f else F (i-1)):
  RowsLe N (fun i=>bif Nat.blt i K then factAV (F (0+i)) else bif Nat.blt (i-K) 1 then List.take 10 (List.drop (0+(i-K)*10) (factAV f)) else factAV (F (K+(i-K-1)))) fun j=>factAV (G j):=by
 refine rows_of fun j hj=>?_
 rw [hG]
 by_cases h:j<K
 ·rw [if_pos h,(Nat.blt_eq ..).mpr h,cond_true,Nat.zero_add]
 ·have hb:Nat.blt j K=false:=by
   cases hb:Nat.blt j K with
   | false=>rfl
   | true=>exact absurd ((Nat.blt_eq ..).mp hb) h
  rw [if_neg h,hb,cond_false]
  by_cases h2:j=K
  ·rw [if_pos h2,h2,Nat.sub_self]
   rfl
  ·have hb2:Nat.blt (j-K) 1=false:=by
    cases hb:Nat.blt (j-K) 1 with
    | false=>rfl
    | true=>have:=(Nat.blt_eq ..).mp hb;omega
   rw [if_neg h2,hb2,cond_false]
   congr 2;omega
theorem made_tail (n : Nat) (X : Nat → Nat → Int) (i : Int) (L : List Fact) (f : Fact) (Q : Prop) (hi0 : 0 ≤ i) (h40 : i < 40) (hL : L.length ≤ 40) (hl : 0 < L.length) (hQ : Q) :
  Cond (decide (((posL L f : Nat) : Int) < Int.ofNat L.length)) (Asks (decide ((0 : Int) ≤ ((posL L f : Nat) : Int)) && decide (((posL L f : Nat) : Int) < Int.ofNat L.length)) (Asks (decide (Int.toNat ((posL L f : Nat) : Int) < L.length)) (Cond (decide (Fact.t (getL L (Int.toNat ((posL L f : Nat) : Int))) = Fact.t f)) (Asks (decide ((0 : Int) ≤ ((posL L f : Nat) : Int)) && decide (((posL L f : Nat) : Int) < Int.ofNat L.length)) (Asks (decide (Int.toNat ((posL L f : Nat) : Int) < L.length)) (Cond (decide (Fact.s (getL L (Int.toNat ((posL L f : Nat) : Int))) = Fact.s f)) (Asks (inR IntKind.i64 (i + (1 : Int))) (EqN L.length (insL L f).length ((RowsLe L.length (fun j => factAV (getL L j)) fun j => factAV (getL (insL L f) j)) ∧ EqN L.length (insL L f).length (EqN n n (RowsLe n (xRow X) (xRow X) ∧ EqI (i + (1 : Int)) (i + 1) Q))))) (Asks (decide ((0 : Int) ≤ ((posL L f :
   Nat) : Int)) && decide (((posL L f : Nat) : Int) ≤ ((posL L f : Nat) : Int)) && decide (((posL L f : Nat) : Int) ≤ Int.ofNat L.length) && decide ((0 : Nat) < L.length)) (Asks (decide ((0 : Int) ≤ ((posL L f : Nat) : Int)) && decide (((posL L f : Nat) : Int) ≤ Int.ofNat L.length) && decide (Int.ofNat L.length ≤ Int.ofNat L.length) && decide ((0 : Nat) < L.length)) (Asks (decide (Int.toNat ((posL L f : Nat) : Int) + Int.toNat (Int.ofNat L.length - ((posL L f : Nat) : Int)) ≤ L.length) && true && decide (((1 : Nat) + Int.toNat (Int.ofNat L.length - ((posL L f : Nat) : Int))) * (80 : Nat) ≤ (140737488355328 : Nat)) && true) (Cond (decide (Int.toNat (Int.ofNat L.length - ((posL L f : Nat) : Int)) = (0 : Nat))) (Asks (decide ((0 : Int) ≤ ((posL L f : Nat) : Int)) && decide (((posL L f : Nat) : Int) ≤ ((posL L f : Nat) : Int)) && decide (((posL L f : Nat) : Int) ≤ Int.ofNat L.length) &&
   decide ((0 : Nat) < L.length)) (Asks (decide (Int.toNat (((posL L f : Nat) : Int) - (0 : Int)) = Int.toNat (((posL L f : Nat) : Int) - (0 : Int))) && decide (some (Int.toNat (((posL L f : Nat) : Int) - (0 : Int))) = some (Int.toNat (((posL L f : Nat) : Int) - (0 : Int)))) && true) (Asks (decide ((0 : Nat) + Int.toNat (((posL L f : Nat) : Int) - (0 : Int)) ≤ L.length) && true && true && decide ((Int.toNat (((posL L f : Nat) : Int) - (0 : Int)) + (1 : Nat)) * (80 : Nat) ≤ (140737488355328 : Nat)) && true) (Cond (decide (Int.toNat (((posL L f : Nat) : Int) - (0 : Int)) = Int.toNat (((posL L f : Nat) : Int) - (0 : Int)))) (Asks (inR IntKind.i64 (i + (1 : Int))) (EqN (Int.toNat (((posL L f : Nat) : Int) - (0 : Int)) + (1 : Nat)) (insL L f).length ((RowsLe (Int.toNat (((posL L f : Nat) : Int) - (0 : Int)) + (1 : Nat)) (fun i => bif Nat.blt i (Int.toNat (((posL L f : Nat) : Int) - (0
   : Int))) then factAV (getL L ((0 : Nat) + i)) else List.take (10 : Nat) (List.drop ((0 : Nat) + (i - Int.toNat (((posL L f : Nat) : Int) - (0 : Int))) * (10 : Nat)) [AV.int IntKind.i64 (Fact.t f), AV.int IntKind.i64 (Fact.s f), AV.int IntKind.i64 (Fact.v f), AV.int IntKind.i64 (Fact.w f), AV.int IntKind.i64 (Fact.o f), AV.int IntKind.i64 (Fact.p f), AV.int IntKind.i64 (Fact.d f), AV.int IntKind.i64 (Fact.l f), AV.int IntKind.i64 (Fact.h f), AV.int IntKind.i64 (Fact.b f)])) fun j => factAV (getL (insL L f) j)) ∧ EqN (Int.toNat (((posL L f : Nat) : Int) - (0 : Int)) + (1 : Nat)) (insL L f).length (EqN n n (RowsLe n (xRow X) (xRow X) ∧ EqI (i + (1 : Int)) (i + 1) Q))))) (Asks (inR IntKind.i64 (i + (1 : Int))) (EqN (Int.toNat (((posL L f : Nat) : Int) - (0 : Int)) + (1 : Nat)) (insL L f).length ((RowsLe (Int.toNat (((posL L f : Nat) : Int) - (0 : Int)) + (1 : Nat))
   (fun i => bif Nat.blt i (Int.toNat (((posL L f : Nat) : Int) - (0 : Int))) then factAV (getL L ((0 : Nat) + i)) else List.take (10 : Nat) (List.drop ((0 : Nat) + (i - Int.toNat (((posL L f : Nat) : Int) - (0 : Int))) * (10 : Nat)) [AV.int IntKind.i64 (Fact.t f), AV.int IntKind.i64 (Fact.s f), AV.int IntKind.i64 (Fact.v f), AV.int IntKind.i64 (Fact.w f), AV.int IntKind.i64 (Fact.o f), AV.int IntKind.i64 (Fact.p f), AV.int IntKind.i64 (Fact.d f), AV.int IntKind.i64 (Fact.l f), AV.int IntKind.i64 (Fact.h f), AV.int IntKind.i64 (Fact.b f)])) fun j => factAV (getL (insL L f) j)) ∧ EqN (Int.toNat (((posL L f : Nat) : Int) - (0 : Int)) + (1 : Nat)) (insL L f).length (EqN n n (RowsLe n (xRow X) (xRow X) ∧ EqI (i + (1 : Int)) (i + 1) Q))))))))) (Asks (decide ((0 : Int) ≤ ((posL L f : Nat) : Int)) && decide (((posL L f : Nat) : Int) ≤ ((posL L f : Nat) : Int)) && decide (((posL L
   f : Nat) : Int) ≤ Int.ofNat L.length) && decide ((0 : Nat) < L.length)) (Asks (decide (Int.toNat (((posL L f : Nat) : Int) - (0 : Int)) = Int.toNat (((posL L f : Nat) : Int) - (0 : Int))) && decide (some (Int.toNat (((posL L f : Nat) : Int) - (0 : Int))) = some (Int.toNat (((posL L f : Nat) : Int) - (0 : Int)))) && true) (Asks (decide ((0 : Nat) + Int.toNat (((posL L f : Nat) : Int) - (0 : Int)) ≤ L.length) && decide ((1 : Nat) + Int.toNat (Int.ofNat L.length - ((posL L f : Nat) : Int)) ≤ (1 : Nat) + Int.toNat (Int.ofNat L.length - ((posL L f : Nat) : Int))) && true && decide ((Int.toNat (((posL L f : Nat) : Int) - (0 : Int)) + ((1 : Nat) + Int.toNat (Int.ofNat L.length - ((posL L f : Nat) : Int)))) * (80 : Nat) ≤ (140737488355328 : Nat)) && true) (Cond (decide ((1 : Nat) + Int.toNat (Int.ofNat L.length - ((posL L f : Nat) : Int)) = (0 : Nat))) (Asks (inR IntKind.i64 (i + (1 : Int))) (EqN (insL L f).length (0 : Nat) False)) (Cond (decide (Int.toNat (((posL L f : Nat) : Int) - (0 : Int)) = Int.toNat (((posL L f : Nat) : Int) - (0 : Int)))) (Asks (inR IntKind.i64 (i + (1 : Int))) (EqN (Int.toNat (((posL L f : Nat) : Int) - (0 : Int)) + ((1 : Nat) + Int.toNat (Int.ofNat L.length - ((posL L f : Nat) : Int)))) (insL L f).length ((RowsLe (Int.toNat (((posL L f : Nat) : Int) - (0 : Int)) + ((1 : Nat) + Int.toNat (Int.ofNat L.length - ((posL L f : Nat) : Int)))) (fun i => bif Nat.blt i (Int.toNat (((posL L f : Nat) : Int) - (0 : Int))) then factAV (getL L ((0 : Nat) + i)) else bif Nat.blt (i - Int.toNat (((posL L f : Nat) : Int) - (0 : Int))) (1 : Nat) then List.take (10 : Nat) (List.drop ((0 : Nat) + (i - Int.toNat (((posL L f : Nat) : Int) - (0 : Int))) * (10 : Nat)) [AV.int IntKind.i64 (Fact.t f), AV.int IntKind.i64 (Fact.s f), AV.int IntKind.i64 (Fact.v
   f), AV.int IntKind.i64 (Fact.w f), AV.int IntKind.i64 (Fact.o f), AV.int IntKind.i64 (Fact.p f), AV.int IntKind.i64 (Fact.d f), AV.int IntKind.i64 (Fact.l f), AV.int IntKind.i64 (Fact.h f), AV.int IntKind.i64 (Fact.b f)]) else factAV (getL L (Int.toNat ((posL L f : Nat) : Int) + (i - Int.toNat (((posL L f : Nat) : Int) - (0 : Int)) - (1 : Nat))))) fun j => factAV (getL (insL L f) j)) ∧ EqN (Int.toNat (((posL L f : Nat) : Int) - (0 : Int)) + ((1 : Nat) + Int.toNat (Int.ofNat L.length - ((posL L f : Nat) : Int)))) (insL L f).length (EqN n n (RowsLe n (xRow X) (xRow X) ∧ EqI (i + (1 : Int)) (i + 1) Q))))) (Asks (inR IntKind.i64 (i + (1 : Int))) (EqN (Int.toNat (((posL L f : Nat) : Int) - (0 : Int)) + ((1 : Nat) + Int.toNat (Int.ofNat L.length - ((posL L f : Nat) : Int)))) (insL L f).length ((RowsLe (Int.toNat (((posL L f : Nat) : Int) - (0 : Int)) + ((1 : Nat) +
   Int.toNat (Int.ofNat L.length - ((posL L f : Nat) : Int)))) (fun i => bif Nat.blt i (Int.toNat (((posL L f : Nat) : Int) - (0 : Int))) then factAV (getL L ((0 : Nat) + i)) else bif Nat.blt (i - Int.toNat (((posL L f : Nat) : Int) - (0 : Int))) (1 : Nat) then List.take (10 : Nat) (List.drop ((0 : Nat) + (i - Int.toNat (((posL L f : Nat) : Int) - (0 : Int))) * (10 : Nat)) [AV.int IntKind.i64 (Fact.t f), AV.int IntKind.i64 (Fact.s f), AV.int IntKind.i64 (Fact.v f), AV.int IntKind.i64 (Fact.w f), AV.int IntKind.i64 (Fact.o f), AV.int IntKind.i64 (Fact.p f), AV.int IntKind.i64 (Fact.d f), AV.int IntKind.i64 (Fact.l f), AV.int IntKind.i64 (Fact.h f), AV.int IntKind.i64 (Fact.b f)]) else factAV (getL L (Int.toNat ((posL L f : Nat) : Int) + (i - Int.toNat (((posL L f : Nat) : Int) - (0 : Int)) - (1 : Nat))))) fun j => factAV (getL (insL L f) j)) ∧ EqN (Int.toNat (((posL L f : Nat) : Int) - (0
   : Int)) + ((1 : Nat) + Int.toNat (Int.ofNat L.length - ((posL L f : Nat) : Int)))) (insL L f).length (EqN n n (RowsLe n (xRow X) (xRow X) ∧ EqI (i + (1 : Int)) (i + 1) Q))))))))))))))))) (Asks (decide ((0 : Int) ≤ ((posL L f : Nat) : Int)) && decide (((posL L f : Nat) : Int) ≤ ((posL L f : Nat) : Int)) && decide (((posL L f : Nat) : Int) ≤ Int.ofNat L.length) && decide ((0 : Nat) < L.length)) (Asks (decide ((0 : Int) ≤ ((posL L f : Nat) : Int)) && decide (((posL L f : Nat) : Int) ≤ Int.ofNat L.length) && decide (Int.ofNat L.length ≤ Int.ofNat L.length) && decide ((0 : Nat) < L.length)) (Asks (decide (Int.toNat ((posL L f : Nat) : Int) + Int.toNat (Int.ofNat L.length - ((posL L f : Nat) : Int)) ≤ L.length) && true && decide (((1 : Nat) + Int.toNat (Int.ofNat L.length - ((posL L f : Nat) : Int))) * (80 : Nat) ≤ (140737488355328 : Nat)) && true) (Cond (decide (Int.toNat
   (Int.ofNat L.length - ((posL L f : Nat) : Int)) = (0 : Nat))) (Asks (decide ((0 : Int) ≤ ((posL L f : Nat) : Int)) && decide (((posL L f : Nat) : Int) ≤ ((posL L f : Nat) : Int)) && decide (((posL L f : Nat) : Int) ≤ Int.ofNat L.length) && decide ((0 : Nat) < L.length)) (Asks (decide (Int.toNat (((posL L f : Nat) : Int) - (0 : Int)) = Int.toNat (((posL L f : Nat) : Int) - (0 : Int))) && decide (some (Int.toNat (((posL L f : Nat) : Int) - (0 : Int))) = some (Int.toNat (((posL L f : Nat) : Int) - (0 : Int)))) && true) (Asks (decide ((0 : Nat) + Int.toNat (((posL L f : Nat) : Int) - (0 : Int)) ≤ L.length) && true && true && decide ((Int.toNat (((posL L f : Nat) : Int) - (0 : Int)) + (1 : Nat)) * (80 : Nat) ≤ (140737488355328 : Nat)) && true) (Cond (decide (Int.toNat (((posL L f : Nat) : Int) - (0 : Int)) = Int.toNat (((posL L f : Nat) : Int) - (0 : Int)))) (Asks (inR IntKind.i64 (i + (1 : Int))) (EqN (Int.toNat (((posL L f : Nat) : Int) - (0 : Int)) + (1 : Nat)) (insL L f).length ((RowsLe (Int.toNat (((posL L f : Nat) : Int) - (0 : Int)) + (1 : Nat)) (fun i => bif Nat.blt i (Int.toNat (((posL L f : Nat) : Int) - (0 : Int))) then factAV (getL L ((0 : Nat) + i)) else List.take (10 : Nat) (List.drop ((0 : Nat) + (i - Int.toNat (((posL L f : Nat) : Int) - (0 : Int))) * (10 : Nat)) [AV.int IntKind.i64 (Fact.t f), AV.int IntKind.i64 (Fact.s f), AV.int IntKind.i64 (Fact.v f), AV.int IntKind.i64 (Fact.w f), AV.int IntKind.i64 (Fact.o f), AV.int IntKind.i64 (Fact.p f), AV.int IntKind.i64 (Fact.d f), AV.int IntKind.i64 (Fact.l f), AV.int IntKind.i64 (Fact.h f), AV.int IntKind.i64 (Fact.b f)])) fun j => factAV (getL (insL L f) j)) ∧ EqN (Int.toNat (((posL L f : Nat) : Int) - (0 : Int)) + (1 : Nat)) (insL L f).length (EqN n n (RowsLe n (xRow X) (xRow X) ∧ EqI (i + (1 : Int)) (i + 1) Q))))) (Asks (inR IntKind.i64 (i + (1 : Int))) (EqN (Int.toNat (((posL L f : Nat) : Int) - (0 : Int)) + (1 : Nat)) (insL L f).length ((RowsLe (Int.toNat (((posL L f : Nat) : Int) - (0 : Int)) + (1 : Nat)) (fun i => bif Nat.blt i (Int.toNat (((posL L f : Nat) : Int) - (0 : Int))) then factAV (getL L ((0 : Nat) + i)) else List.take (10 : Nat) (List.drop ((0 : Nat) + (i - Int.toNat (((posL L f : Nat) : Int) - (0 : Int))) * (10 : Nat)) [AV.int IntKind.i64 (Fact.t f), AV.int IntKind.i64 (Fact.s f), AV.int IntKind.i64 (Fact.v f), AV.int IntKind.i64 (Fact.w f), AV.int IntKind.i64 (Fact.o f), AV.int IntKind.i64 (Fact.p f), AV.int IntKind.i64 (Fact.d f), AV.int IntKind.i64 (Fact.l f), AV.int IntKind.i64 (Fact.h f), AV.int IntKind.i64 (Fact.b f)])) fun j => factAV (getL (insL L f) j)) ∧ EqN (Int.toNat (((posL L f : Nat) : Int) - (0 : Int)) + (1 : Nat)) (insL
   L f).length (EqN n n (RowsLe n (xRow X) (xRow X) ∧ EqI (i + (1 : Int)) (i + 1) Q))))))))) (Asks (decide ((0 : Int) ≤ ((posL L f : Nat) : Int)) && decide (((posL L f : Nat) : Int) ≤ ((posL L f : Nat) : Int)) && decide (((posL L f : Nat) : Int) ≤ Int.ofNat L.length) && decide ((0 : Nat) < L.length)) (Asks (decide (Int.toNat (((posL L f : Nat) : Int) - (0 : Int)) = Int.toNat (((posL L f : Nat) : Int) - (0 : Int))) && decide (some (Int.toNat (((posL L f : Nat) : Int) - (0 : Int))) = some (Int.toNat (((posL L f : Nat) : Int) - (0 : Int)))) && true) (Asks (decide ((0 : Nat) + Int.toNat (((posL L f : Nat) : Int) - (0 : Int)) ≤ L.length) && decide ((1 : Nat) + Int.toNat (Int.ofNat L.length - ((posL L f : Nat) : Int)) ≤ (1 : Nat) + Int.toNat (Int.ofNat L.length - ((posL L f : Nat) : Int))) && true && decide ((Int.toNat (((posL L f : Nat) : Int) - (0 : Int)) + ((1 : Nat) +
   Int.toNat (Int.ofNat L.length - ((posL L f : Nat) : Int)))) * (80 : Nat) ≤ (140737488355328 : Nat)) && true) (Cond (decide ((1 : Nat) + Int.toNat (Int.ofNat L.length - ((posL L f : Nat) : Int)) = (0 : Nat))) (Asks (inR IntKind.i64 (i + (1 : Int))) (EqN (insL L f).length (0 : Nat) False)) (Cond (decide (Int.toNat (((posL L f : Nat) : Int) - (0 : Int)) = Int.toNat (((posL L f : Nat) : Int) - (0 : Int)))) (Asks (inR IntKind.i64 (i + (1 : Int))) (EqN (Int.toNat (((posL L f : Nat) : Int) - (0 : Int)) + ((1 : Nat) + Int.toNat (Int.ofNat L.length - ((posL L f : Nat) : Int)))) (insL L f).length ((RowsLe (Int.toNat (((posL L f : Nat) : Int) - (0 : Int)) + ((1 : Nat) + Int.toNat (Int.ofNat L.length - ((posL L f : Nat) : Int)))) (fun i => bif Nat.blt i (Int.toNat (((posL L f : Nat) : Int) - (0 : Int))) then factAV (getL L ((0 : Nat) + i)) else bif Nat.blt (i - Int.toNat (((posL L
   f : Nat) : Int) - (0 : Int))) (1 : Nat) then List.take (10 : Nat) (List.drop ((0 : Nat) + (i - Int.toNat (((posL L f : Nat) : Int) - (0 : Int))) * (10 : Nat)) [AV.int IntKind.i64 (Fact.t f), AV.int IntKind.i64 (Fact.s f), AV.int IntKind.i64 (Fact.v f), AV.int IntKind.i64 (Fact.w f), AV.int IntKind.i64 (Fact.o f), AV.int IntKind.i64 (Fact.p f), AV.int IntKind.i64 (Fact.d f), AV.int IntKind.i64 (Fact.l f), AV.int IntKind.i64 (Fact.h f), AV.int IntKind.i64 (Fact.b f)]) else factAV (getL L (Int.toNat ((posL L f : Nat) : Int) + (i - Int.toNat (((posL L f : Nat) : Int) - (0 : Int)) - (1 : Nat))))) fun j => factAV (getL (insL L f) j)) ∧ EqN (Int.toNat (((posL L f : Nat) : Int) - (0 : Int)) + ((1 : Nat) + Int.toNat (Int.ofNat L.length - ((posL L f : Nat) : Int)))) (insL L f).length (EqN n n (RowsLe n (xRow X) (xRow X) ∧ EqI (i + (1 : Int)) (i + 1) Q))))) (Asks (inR IntKind.i64
   (i + (1 : Int))) (EqN (Int.toNat (((posL L f : Nat) : Int) - (0 : Int)) + ((1 : Nat) + Int.toNat (Int.ofNat L.length - ((posL L f : Nat) : Int)))) (insL L f).length ((RowsLe (Int.toNat (((posL L f : Nat) : Int) - (0 : Int)) + ((1 : Nat) + Int.toNat (Int.ofNat L.length - ((posL L f : Nat) : Int)))) (fun i => bif Nat.blt i (Int.toNat (((posL L f : Nat) : Int) - (0 : Int))) then factAV (getL L ((0 : Nat) + i)) else bif Nat.blt (i - Int.toNat (((posL L f : Nat) : Int) - (0 : Int))) (1 : Nat) then List.take (10 : Nat) (List.drop ((0 : Nat) + (i - Int.toNat (((posL L f : Nat) : Int) - (0 : Int))) * (10 : Nat)) [AV.int IntKind.i64 (Fact.t f), AV.int IntKind.i64 (Fact.s f), AV.int IntKind.i64 (Fact.v f), AV.int IntKind.i64 (Fact.w f), AV.int IntKind.i64 (Fact.o f), AV.int IntKind.i64 (Fact.p f), AV.int IntKind.i64 (Fact.d f), AV.int IntKind.i64 (Fact.l f), AV.int IntKind.i64 (Fact.h
   f), AV.int IntKind.i64 (Fact.b f)]) else factAV (getL L (Int.toNat ((posL L f : Nat) : Int) + (i - Int.toNat (((posL L f : Nat) : Int) - (0 : Int)) - (1 : Nat))))) fun j => factAV (getL (insL L f) j)) ∧ EqN (Int.toNat (((posL L f : Nat) : Int) - (0 : Int)) + ((1 : Nat) + Int.toNat (Int.ofNat L.length - ((posL L f : Nat) : Int)))) (insL L f).length (EqN n n (RowsLe n (xRow X) (xRow X) ∧ EqI (i + (1 : Int)) (i + 1) Q))))))))))))))))) (Asks (decide ((0 : Int) ≤ ((posL L f : Nat) : Int)) && decide (((posL L f : Nat) : Int) ≤ ((posL L f : Nat) : Int)) && decide (((posL L f : Nat) : Int) ≤ Int.ofNat L.length) && decide ((0 : Nat) < L.length)) (Asks (decide ((0 : Int) ≤ ((posL L f : Nat) : Int)) && decide (((posL L f : Nat) : Int) ≤ Int.ofNat L.length) && decide (Int.ofNat L.length ≤ Int.ofNat L.length) && decide ((0 : Nat) < L.length)) (Asks (decide (Int.toNat ((posL L f :
   Nat) : Int) + Int.toNat (Int.ofNat L.length - ((posL L f : Nat) : Int)) ≤ L.length) && true && decide (((1 : Nat) + Int.toNat (Int.ofNat L.length - ((posL L f : Nat) : Int))) * (80 : Nat) ≤ (140737488355328 : Nat)) && true) (Cond (decide (Int.toNat (Int.ofNat L.length - ((posL L f : Nat) : Int)) = (0 : Nat))) (Asks (decide ((0 : Int) ≤ ((posL L f : Nat) : Int)) && decide (((posL L f : Nat) : Int) ≤ ((posL L f : Nat) : Int)) && decide (((posL L f : Nat) : Int) ≤ Int.ofNat L.length) && decide ((0 : Nat) < L.length)) (Asks (decide (Int.toNat (((posL L f : Nat) : Int) - (0 : Int)) = Int.toNat (((posL L f : Nat) : Int) - (0 : Int))) && decide (some (Int.toNat (((posL L f : Nat) : Int) - (0 : Int))) = some (Int.toNat (((posL L f : Nat) : Int) - (0 : Int)))) && true) (Asks (decide ((0 : Nat) + Int.toNat (((posL L f : Nat) : Int) - (0 : Int)) ≤ L.length) && true && true && decide ((Int.toNat
   (((posL L f : Nat) : Int) - (0 : Int)) + (1 : Nat)) * (80 : Nat) ≤ (140737488355328 : Nat)) && true) (Cond (decide (Int.toNat (((posL L f : Nat) : Int) - (0 : Int)) = Int.toNat (((posL L f : Nat) : Int) - (0 : Int)))) (Asks (inR IntKind.i64 (i + (1 : Int))) (EqN (Int.toNat (((posL L f : Nat) : Int) - (0 : Int)) + (1 : Nat)) (insL L f).length ((RowsLe (Int.toNat (((posL L f : Nat) : Int) - (0 : Int)) + (1 : Nat)) (fun i => bif Nat.blt i (Int.toNat (((posL L f : Nat) : Int) - (0 : Int))) then factAV (getL L ((0 : Nat) + i)) else List.take (10 : Nat) (List.drop ((0 : Nat) + (i - Int.toNat (((posL L f : Nat) : Int) - (0 : Int))) * (10 : Nat)) [AV.int IntKind.i64 (Fact.t f), AV.int IntKind.i64 (Fact.s f), AV.int IntKind.i64 (Fact.v f), AV.int IntKind.i64 (Fact.w f), AV.int IntKind.i64 (Fact.o f), AV.int IntKind.i64 (Fact.p f), AV.int IntKind.i64 (Fact.d f), AV.int IntKind.i64
   (Fact.l f), AV.int IntKind.i64 (Fact.h f), AV.int IntKind.i64 (Fact.b f)])) fun j => factAV (getL (insL L f) j)) ∧ EqN (Int.toNat (((posL L f : Nat) : Int) - (0 : Int)) + (1 : Nat)) (insL L f).length (EqN n n (RowsLe n (xRow X) (xRow X) ∧ EqI (i + (1 : Int)) (i + 1) Q))))) (Asks (inR IntKind.i64 (i + (1 : Int))) (EqN (Int.toNat (((posL L f : Nat) : Int) - (0 : Int)) + (1 : Nat)) (insL L f).length ((RowsLe (Int.toNat (((posL L f : Nat) : Int) - (0 : Int)) + (1 : Nat)) (fun i => bif Nat.blt i (Int.toNat (((posL L f : Nat) : Int) - (0 : Int))) then factAV (getL L ((0 : Nat) + i)) else List.take (10 : Nat) (List.drop ((0 : Nat) + (i - Int.toNat (((posL L f : Nat) : Int) - (0 : Int))) * (10 : Nat)) [AV.int IntKind.i64 (Fact.t f), AV.int IntKind.i64 (Fact.s f), AV.int IntKind.i64 (Fact.v f), AV.int IntKind.i64 (Fact.w f), AV.int IntKind.i64 (Fact.o f), AV.int
   IntKind.i64 (Fact.p f), AV.int IntKind.i64 (Fact.d f), AV.int IntKind.i64 (Fact.l f), AV.int IntKind.i64 (Fact.h f), AV.int IntKind.i64 (Fact.b f)])) fun j => factAV (getL (insL L f) j)) ∧ EqN (Int.toNat (((posL L f : Nat) : Int) - (0 : Int)) + (1 : Nat)) (insL L f).length (EqN n n (RowsLe n (xRow X) (xRow X) ∧ EqI (i + (1 : Int)) (i + 1) Q))))))))) (Asks (decide ((0 : Int) ≤ ((posL L f : Nat) : Int)) && decide (((posL L f : Nat) : Int) ≤ ((posL L f : Nat) : Int)) && decide (((posL L f : Nat) : Int) ≤ Int.ofNat L.length) && decide ((0 : Nat) < L.length)) (Asks (decide (Int.toNat (((posL L f : Nat) : Int) - (0 : Int)) = Int.toNat (((posL L f : Nat) : Int) - (0 : Int))) && decide (some (Int.toNat (((posL L f : Nat) : Int) - (0 : Int))) = some (Int.toNat (((posL L f : Nat) : Int) - (0 : Int)))) && true) (Asks (decide ((0 : Nat) + Int.toNat (((posL L f : Nat) : Int) - (0 :
   Int)) ≤ L.length) && decide ((1 : Nat) + Int.toNat (Int.ofNat L.length - ((posL L f : Nat) : Int)) ≤ (1 : Nat) + Int.toNat (Int.ofNat L.length - ((posL L f : Nat) : Int))) && true && decide ((Int.toNat (((posL L f : Nat) : Int) - (0 : Int)) + ((1 : Nat) + Int.toNat (Int.ofNat L.length - ((posL L f : Nat) : Int)))) * (80 : Nat) ≤ (140737488355328 : Nat)) && true) (Cond (decide ((1 : Nat) + Int.toNat (Int.ofNat L.length - ((posL L f : Nat) : Int)) = (0 : Nat))) (Asks (inR IntKind.i64 (i + (1 : Int))) (EqN (insL L f).length (0 : Nat) False)) (Cond (decide (Int.toNat (((posL L f : Nat) : Int) - (0 : Int)) = Int.toNat (((posL L f : Nat) : Int) - (0 : Int)))) (Asks (inR IntKind.i64 (i + (1 : Int))) (EqN (Int.toNat (((posL L f : Nat) : Int) - (0 : Int)) + ((1 : Nat) + Int.toNat (Int.ofNat L.length - ((posL L f : Nat) : Int)))) (insL L f).length ((RowsLe (Int.toNat (((posL L f
   : Nat) : Int) - (0 : Int)) + ((1 : Nat) + Int.toNat (Int.ofNat L.length - ((posL L f : Nat) : Int)))) (fun i => bif Nat.blt i (Int.toNat (((posL L f : Nat) : Int) - (0 : Int))) then factAV (getL L ((0 : Nat) + i)) else bif Nat.blt (i - Int.toNat (((posL L f : Nat) : Int) - (0 : Int))) (1 : Nat) then List.take (10 : Nat) (List.drop ((0 : Nat) + (i - Int.toNat (((posL L f : Nat) : Int) - (0 : Int))) * (10 : Nat)) [AV.int IntKind.i64 (Fact.t f), AV.int IntKind.i64 (Fact.s f), AV.int IntKind.i64 (Fact.v f), AV.int IntKind.i64 (Fact.w f), AV.int IntKind.i64 (Fact.o f), AV.int IntKind.i64 (Fact.p f), AV.int IntKind.i64 (Fact.d f), AV.int IntKind.i64 (Fact.l f), AV.int IntKind.i64 (Fact.h f), AV.int IntKind.i64 (Fact.b f)]) else factAV (getL L (Int.toNat ((posL L f : Nat) : Int) + (i - Int.toNat (((posL L f : Nat) : Int) - (0 : Int)) - (1 : Nat))))) fun j => factAV (getL (insL L f) j)) ∧ EqN
   (Int.toNat (((posL L f : Nat) : Int) - (0 : Int)) + ((1 : Nat) + Int.toNat (Int.ofNat L.length - ((posL L f : Nat) : Int)))) (insL L f).length (EqN n n (RowsLe n (xRow X) (xRow X) ∧ EqI (i + (1 : Int)) (i + 1) Q))))) (Asks (inR IntKind.i64 (i + (1 : Int))) (EqN (Int.toNat (((posL L f : Nat) : Int) - (0 : Int)) + ((1 : Nat) + Int.toNat (Int.ofNat L.length - ((posL L f : Nat) : Int)))) (insL L f).length ((RowsLe (Int.toNat (((posL L f : Nat) : Int) - (0 : Int)) + ((1 : Nat) + Int.toNat (Int.ofNat L.length - ((posL L f : Nat) : Int)))) (fun i => bif Nat.blt i (Int.toNat (((posL L f : Nat) : Int) - (0 : Int))) then factAV (getL L ((0 : Nat) + i)) else bif Nat.blt (i - Int.toNat (((posL L f : Nat) : Int) - (0 : Int))) (1 : Nat) then List.take (10 : Nat) (List.drop ((0 : Nat) + (i - Int.toNat (((posL L f : Nat) : Int) - (0 : Int))) * (10 : Nat)) [AV.int IntKind.i64
   (Fact.t f), AV.int IntKind.i64 (Fact.s f), AV.int IntKind.i64 (Fact.v f), AV.int IntKind.i64 (Fact.w f), AV.int IntKind.i64 (Fact.o f), AV.int IntKind.i64 (Fact.p f), AV.int IntKind.i64 (Fact.d f), AV.int IntKind.i64 (Fact.l f), AV.int IntKind.i64 (Fact.h f), AV.int IntKind.i64 (Fact.b f)]) else factAV (getL L (Int.toNat ((posL L f : Nat) : Int) + (i - Int.toNat (((posL L f : Nat) : Int) - (0 : Int)) - (1 : Nat))))) fun j => factAV (getL (insL L f) j)) ∧ EqN (Int.toNat (((posL L f : Nat) : Int) - (0 : Int)) + ((1 : Nat) + Int.toNat (Int.ofNat L.length - ((posL L f : Nat) : Int)))) (insL L f).length (EqN n n (RowsLe n (xRow X) (xRow X) ∧ EqI (i + (1 : Int)) (i + 1) Q)))))))))))))) := by
  have hp := posL_le L f
  have hat := posL_at L f
  rw [ltF_not] at hat
  have heq := insL_eq L f
  have em : Int.ofNat L.length = (L.length : Int) := rfl
  have ek : Int.toNat ((posL L f : Nat) : Int) = posL L f := rfl
  have ek0 : Int.toNat (((posL L f : Nat) : Int) - 0) = posL L f := by omega
  have emk : Int.toNat (Int.ofNat L.length - ((posL L f : Nat) : Int)) = L.length - posL L f := by omega
  have hi : inR .i64 (i + 1) = true := inR_small (by omega) (by omega)
  rw [ek0, emk, ek]
  by_cases hd : posL L f < L.length ∧ (getL L (posL L f)).t = f.t ∧ (getL L (posL L f)).s = f.s
  · have hins : insL L f = L := by
      rw [heq, (Nat.blt_eq ..).mpr hd.1, atF_iff.2 hd.2]; rfl
    rw [hins]
    have hb : (decide ((0 : Int) ≤ ((posL L f : Nat) : Int)) && decide (((posL L f : Nat) : Int) < Int.ofNat L.length)) = true := by simp only [Bool.and_eq_true, decide_eq_true_eq]; omega
    have hc : decide (posL L f < L.length) = true := decide_eq_true hd.1
    refine Cond.mkP (fun _ => Asks.mk hb (Asks.mk hc ?_)) fun h => absurd h (by omega)
    refine Cond.mkP (fun _ => Asks.mk hb (Asks.mk hc ?_)) fun h => absurd hd.2.1 h
    refine Cond.mkP (fun _ => ?_) fun h => absurd hd.2.2 h
    refine Asks.mk' _ _ hi ?_
    refine EqN.mk rfl ⟨fRows _ _, ?_⟩
    refine EqN.mk rfl (EqN.mk rfl ⟨xRows _ _, EqI.mk rfl hQ⟩)
  · have hno : (Nat.blt (posL L f) L.length && atF (getL L (posL L f)) f) = false := by
      cases hx : (Nat.blt (posL L f) L.length && atF (getL L (posL L f)) f) with
      | false => rfl
      | true =>
        rw [Bool.and_eq_true, Nat.blt_eq, atF_iff] at hx
        exact absurd hx hd
    have hget := insL_get hno
    have hlen := insL_len hno
    rw [hlen]
    generalize posL L f = K at *
    generalize insL L f = L' at *
    generalize getL L = F at *
    generalize L.length = m at *
    clear hno heq hat
    have end1 : ∀ {N : Nat} {g : Nat → List AV}, N = m + 1 → RowsLe N g (fun j => factAV (getL L' j)) → Asks (inR .i64 (i + 1)) (EqN N (m + 1) ((RowsLe N g fun j => factAV (getL L' j)) ∧ EqN N (m + 1) (EqN n n (RowsLe n (xRow X) (xRow X) ∧ EqI (i + 1) (i + 1) Q)))) := fun h r =>
      Asks.mk' _ _ hi (EqN.mk h ⟨r, EqN.mk h (EqN.mk rfl ⟨xRows _ _, EqI.mk rfl hQ⟩)⟩)
    repeat' (first
      | refine Asks.mk' _ _ (by simp only [Bool.and_eq_true, Bool.and_true, decide_eq_true_eq]; omega) ?_
      | refine Asks.mk' _ _ (by simp) ?_
      | exact end1 (by omega) (ins_rowsA (by omega) hget)
      | exact end1 (by omega) (ins_rowsB hget)
      | refine Cond.mkP (fun h => ?_) fun h => ?_
      | omega
      | exact absurd ‹_› (by omega))
def xOk (X:Nat→Nat→Int) (j:Nat): Prop:=inR .i64 (X j 0)=true∧inR .i64 (X j 1)=true∧inR .i64 (X j 2)=true∧inR .i64 (X j 3)=true
theorem made_next (n:Nat) (X:Nat→Nat→Int) (i:Int) (j:Nat) (hij:i=(j:Int)) (L:List Fact) (eN:Bool) (iN:Int) (mN:Nat) (FN:Nat→Fact) (Q:Prop) (f:Fact) (hf:f=mkFact (X j 0) (X j 1) (X j 2) (X j 3)) (hx:xOk X j) (hj:j<n) (h40:j<40) (hL:L.length≤40) (h0:L≠[]) (hQ:Q):
  kr [kPick29] [(12034,96,s10b n X ⟨i,false,L.length,getL L⟩ f 0,e10b n X ⟨i,false,L.length,getL L⟩ f (posL L f))] 10 3008 12 (s10 n X) (fun _=>e10 n X eN iN mN FN) (fun _=>⟨i+1,false,(insL L f).length,getL (insL L f)⟩) Q ⟨i,false,L.length,getL L⟩:=by
 refine (made_step n X i L.length _ (getL L) _ f _ _ iN eN mN FN Q).mpr ?_
 have hl:0<L.length:=List.length_pos_iff.2 h0
 have e1:Int.toNat i=j:=by omega
 rw [e1]
 obtain ⟨x0,x1,x2,x3⟩:=hx
 have hp:=posL_le L f
 have hat:=posL_at L f
 rw [ltF_not] at hat
 have hget:(Nat.blt (posL L f) L.length&&atF (getL L (posL L f)) f)=false→ ∀ i,getL (insL L f) i=if i<posL L f then getL L i else if i=posL L f then f else getL L (i-1):=fun h i=>insL_get h i
 have hlen:(Nat.blt (posL L f) L.length&&atF (getL L (posL L f)) f)=false→(insL L f).length=L.length+1:=insL_len
 have heq:=insL_eq L f
 have hloop:=place_loop n X i L f (by omega)
 have h1:=pickF_lt (c:=X j 0) (n:=30) (by omega)
 have h3:=pickF_lt (c:=X j 1) (n:=2) (by omega)
 have h5:=pickF_lt (c:=Int.tdiv (X j 1) 3000) (n:=2) (by omega)
 have h6:=pickF_lt (c:=Int.tdiv (X j 1) 6) (n:=5) (by omega)
 have h8:=pickF_lt (c:=X j 2) (n:=40) (by omega)
 have h8b:=pickF_lt (c:=X j 2) (n:=2199023255552) (by omega)
 have h9:=pickF_lt (c:=Int.tdiv (X j 3) 4) (n:=3) (by omega)
 have h10:=pickF_lt (c:=Int.tdiv (X j 3) 12) (n:=30) (by omega)
 have h11:=mul_small h9.1 h9.2 h10.1 h10.2
 have h12:0≤Int.tdiv (pickF (X j 0) 30) 10∧Int.tdiv (pickF (X j 0) 30) 10≤3:=by
  rw [Int.tdiv_eq_ediv_of_nonneg h1.1];omega
 have t1:=tdiv_inR x0 (k:=30) (by omega)
 have t2:=tdiv_inR x1 (k:=2) (by omega)
 have t3:=tdiv_inR x1 (k:=6) (by omega)
 have t4:=tdiv_inR x1 (k:=30) (by omega)
 have t5:=tdiv_inR x1 (k:=3000) (by omega)
 have t6:=tdiv_inR x3 (k:=4) (by omega)
 have t7:=tdiv_inR x3 (k:=12) (by omega)
 have hb:(decide ((0:Int)≤i)&&decide (i<Int.ofNat n))=true:=by simp only [Bool.and_eq_true,decide_eq_true_eq];show 0≤i∧i<(n:Int);omega
 have en:Int.ofNat n=(n:Int):=rfl
 have em:Int.ofNat L.length=(L.length:Int):=rfl
 refine Cond.mkP (fun _=>?_) fun h=>absurd h (by omega)
 refine Cond.mkP (fun _=>?_) fun h=>absurd h (by omega)
 repeat' (first
  | refine Asks.mk (by first | exact hb | exact decide_eq_true rfl | (rw [x0];rfl) | (rw [x1];rfl) | (rw [x2];rfl) | (rw [x3];rfl) | exact t1 | exact t2 | exact t3 | exact t4 | exact t5 | exact t6 | exact t7 | (rw [t1];rfl) | (rw [t2];rfl) | (rw [t3];rfl) | (rw [t4];rfl) | (rw [t5];rfl) | (rw [t6];rfl) | (rw [t7];rfl) | exact inR_small (by omega) (by omega)) ?_
  | (refine Cond.mkP (p:=pickF (X j 3) 4=3) (fun hc=>?_) fun hc=>?_))
 all_goals
  refine ⟨hloop,?_⟩
  have fl:f.l=mkLow (X j 2) (X j 3):=by rw [hf];rfl
  unfold mkLow at fl
  first
   | rw [decide_eq_true hc] at fl
   | rw [decide_eq_false hc] at fl
  simp only at fl
  have fh:f.h=f.l+pickF (Int.tdiv (X j 3) 4) 3*pickF (Int.tdiv (X j 3) 12) 30:=by rw [hf];rfl
  refine EqI.mk (by rw [hf];rfl) (EqI.mk (by rw [hf];rfl) (EqI.mk (by rw [hf];rfl) (EqI.mk (by rw [hf];rfl) (EqI.mk (by rw [hf];rfl) (EqI.mk (by rw [hf];rfl) (EqI.mk (by rw [hf];rfl) (EqI.mk (by rw [fl]) (EqI.mk (by rw [fh,fl]) (EqI.mk (by rw [hf];rfl) ?_)))))))))
  refine EqN.mk rfl ⟨fRows _ _,EqN.mk rfl (EqN.mk rfl ⟨xRows _ _,EqI.mk rfl ?_⟩)⟩
  clear h1 h3 h5 h6 h8 h8b h9 h10 h11 h12 t1 t2 t3 t4 t5 t6 t7 x0 x1 x2 x3 fl fh hc hloop
  exact made_tail n X i L f Q (by omega) (by omega) hL hl hQ
end Go.Sx
end
