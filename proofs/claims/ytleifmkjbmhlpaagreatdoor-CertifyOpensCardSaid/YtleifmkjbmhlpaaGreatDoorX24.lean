/- CertifyOpens is proved, part 24. -/
import Derived.Test.YtleifmkjbmhlpaaGreatDoorX23
import Derived.Test.YtleifmkjbmhlpaaGreatDoorX17
set_option linter.unusedVariables false
set_option linter.unusedSimpArgs false
set_option linter.unusedSectionVars false
section
set_option maxRecDepth 1000000
namespace Go.Sx
open Go
theorem Cond.mkN {p:Prop} [Decidable p] {x y:Prop} (h : ¬ p→x) (k:p→y): Cond (!decide p) x y:=by
 by_cases hp:p
 ·rw [decide_eq_true hp];exact k hp
 ·rw [decide_eq_false hp];exact h hp
theorem Cond.mkNN {p:Prop} [Decidable p] {x y:Prop} (h:p→x) (k : ¬ p→y): Cond (!!decide p) x y:=by rw [Bool.not_not];exact Cond.mkP h k
def rowH (A B o N:Int): Bool:=decide ((o=1∧A≤N∧N≤B)∨(o=2∧A≤B∧(A≠N∨B≠N))∨(o=3∧A≤B∧A<N)∨(o=4∧A≤B∧N≤B))
def rowX (C:Nat→Nat→Int) (cs:List AV) (j:Nat): Bool :=!rowH (int64At cs (Int.toNat (C j 0-1)*1+0)) (int64At cs (Int.toNat (C j 0-1)*1+8)) (C j 1) (C j 2)
def exclF (nw:Nat) (C:Nat→Nat→Int) (cs:List AV): Bool:=(List.range nw).any fun j=>rowX C cs j
theorem excl_round (q:Query) (lo hi:Nat→Int) (b:Bool) (i:Int) (j:Nat) (hij:i=(j:Int)) (hn:q.nw≤6) (hj:j<q.nw) (hc:(1≤q.C j 0∧q.C j 0≤8)∧(1≤q.C j 1∧q.C j 1≤4)) (Q:Prop)
  (hQ:rowX q.C (coverC lo hi) j=false→Q) (hb:rowX q.C (coverC lo hi) j=true→b=true):
  kr [] [] 34 2001 14 (s34 q lo hi) (fun _=>e34 b) (fun i=>i+1) Q i:=by
 refine (excl_step q lo hi b i Q).mpr ?_
 have e1:Int.toNat i=j:=by omega
 have en:Int.ofNat q.nw=(q.nw:Int):=rfl
 rw [e1]
 unfold rowX rowH at hQ hb
 have hi1:inR .i64 (i+1)=true:=inR_small (by omega) (by omega)
 have hf:inR .i64 (q.C j 0-1)=true:=inR_small (by omega) (by omega)
 have hx:(decide (0≤q.C j 0-1)&&decide (q.C j 0-1<8))=true:=by simp only [Bool.and_eq_true,decide_eq_true_eq];omega
 have hx1:decide (Int.toNat (q.C j 0-1)*1+0<16)=true:=decide_eq_true (by omega)
 have hx2:decide (Int.toNat (q.C j 0-1)*1+8<16)=true:=decide_eq_true (by omega)
 have same : ∀ {Z:Prop},Z→EqI (lo 0) (lo 0) (EqI (lo 1) (lo 1) (EqI (lo 2) (lo 2) (EqI (lo 3) (lo 3) (EqI (lo 4) (lo 4) (EqI (lo 5) (lo 5) (EqI (lo 6) (lo 6) (EqI (lo 7) (lo 7) (EqI (hi 0) (hi 0) (EqI (hi 1) (hi 1) (EqI (hi 2) (hi 2) (EqI (hi 3) (hi 3) (EqI (hi 4) (hi 4) (EqI (hi 5) (hi 5) (EqI (hi 6) (hi 6) (EqI (hi 7) (hi 7)
   (EqN (Query.nw q) (Query.nw q) (RowsLe (Query.nw q) (qRow (Query.C q)) (qRow (Query.C q))∧EqN (Query.ng q) (Query.ng q) (RowsLe (Query.ng q) (gRow (Query.G q)) (gRow (Query.G q))∧EqI (Query.a q) (Query.a q) (EqI (Query.fl q) (Query.fl q) (EqB (Query.nu q) (Query.nu q) (EqB (Query.de q) (Query.de q) (EqI (Query.top q) (Query.top q) (EqN (Query.nw q) (Query.nw q) (RowsLe (Query.nw q) (qRow (Query.C q)) (qRow (Query.C q))∧EqI (i+1) (i+1) (EqI (Int.ofNat (Query.nw q)) (Int.ofNat (Query.nw q)) Z))))))))))))))))))))))))):=fun z=>
  EqI.mk rfl (EqI.mk rfl (EqI.mk rfl (EqI.mk rfl (EqI.mk rfl (EqI.mk rfl (EqI.mk rfl (EqI.mk rfl (EqI.mk rfl (EqI.mk rfl (EqI.mk rfl (EqI.mk rfl (EqI.mk rfl (EqI.mk rfl (EqI.mk rfl (EqI.mk rfl (EqN.mk rfl ⟨qRows _ _,EqN.mk rfl ⟨gRows _ _,EqI.mk rfl (EqI.mk rfl (EqB.mk rfl (EqB.mk rfl (EqI.mk rfl (EqN.mk rfl ⟨qRows _ _,EqI.mk rfl (EqI.mk rfl z)⟩)))))⟩⟩))))))))))))))))
 refine Cond.mkP (fun _=>?_) fun h=>absurd h (by omega)
 refine Asks.mk' _ _ (by simp only [Bool.and_eq_true,decide_eq_true_eq];omega) (Asks.mk' _ _ hf (Asks.mk' _ _ hx (Asks.mk' _ _ hx1 (Asks.mk' _ _ hf (Asks.mk' _ _ hx (Asks.mk' _ _ hx2 ?_))))))
 obtain ⟨hc1,hc2⟩:=hc
 clear hx hx1 hx2 hf hj hn e1 hij
 generalize int64At (coverC lo hi) (Int.toNat (q.C j 0-1)*1+0)=A at*
 generalize int64At (coverC lo hi) (Int.toNat (q.C j 0-1)*1+8)=B at*
 generalize q.C j 1=o at*
 generalize q.C j 2=N at*
 clear hc1
 have hQ':((o=1∧A≤N∧N≤B)∨(o=2∧A≤B∧(A≠N∨B≠N))∨(o=3∧A≤B∧A<N)∨(o=4∧A≤B∧N≤B))→Asks (inR .i64 (i+1)) _:=fun h=>Asks.mk' _ _ hi1 (same (hQ (by rw [decide_eq_true h];rfl)))
 have hb' : ¬ ((o=1∧A≤N∧N≤B)∨(o=2∧A≤B∧(A≠N∨B≠N))∨(o=3∧A≤B∧A<N)∨(o=4∧A≤B∧N≤B))→Cond b (true=true∧True) False:=fun h=>by
  rw [hb (by rw [decide_eq_false h];rfl)];exact ⟨rfl,trivial⟩
 clear hQ hb same hi1
 repeat' (first
  | with_reducible refine Cond.mkNN (fun _=>?_) fun _=>?_
  | with_reducible refine Cond.mkN (fun _=>?_) fun _=>?_
  | with_reducible refine Cond.mkP (fun _=>?_) fun _=>?_
  | exact hb' (by omega)
  | exact hQ' (by omega))
def condsOp (q:Query): Prop := ∀ j,j<q.nw→(1≤q.C j 0∧q.C j 0≤8)∧(1≤q.C j 1∧q.C j 1≤4)
theorem excl_loop (q:Query) (lo hi:Nat→Int) (hn:q.nw≤6) (hc:condsOp q): LoopAt PP II false (loopOf II 34 2001) 14 (s34 q lo hi 0) (e34 (exclF q.nw q.C (coverC lo hi))):=by
 have key:=LoopAt.of (ι:=Nat) hII [] (lamT_ok PP II []) 1000 (c:=loopOf II 34 2001) (ir:=false) 14 (fun j=>j≤q.nw∧ ∀ k,k<j→rowX q.C (coverC lo hi) k=false) (fun j=>s34 q lo hi (j:Int)) (fun _=>e34 (exclF q.nw q.C (coverC lo hi))) (fun j=>q.nw-j) (fun j=>j+1) 0 rfl ⟨Nat.zero_le _,fun k hk=>absurd hk (Nat.not_lt_zero _)⟩ fun j hj=>?_
 ·exact key
 obtain ⟨h1,h2⟩:=hj
 by_cases hlt:j<q.nw
 ·have:=excl_round q lo hi (exclF q.nw q.C (coverC lo hi)) (j:Int) j rfl hn hlt (hc j hlt) ((j+1≤q.nw∧ ∀ k,k<j+1→rowX q.C (coverC lo hi) k=false)∧q.nw-(j+1)<q.nw-j∧(e34 (exclF q.nw q.C (coverC lo hi))).pick=(e34 (exclF q.nw q.C (coverC lo hi))).pick)
   (fun h=>⟨⟨hlt,fun k hk=>by
    by_cases e:k=j
    ·rw [e];exact h
    ·exact h2 k (by omega)⟩,by omega,rfl⟩)
   (fun h=>List.any_eq_true.2 ⟨j,List.mem_range.2 hlt,h⟩)
  exact this
 ·have hj:j=q.nw:=by omega
  have hfalse:exclF q.nw q.C (coverC lo hi)=false:=by
   unfold exclF
   rw [List.any_eq_false]
   intro k hk
   rw [h2 k (by have:=List.mem_range.1 hk;omega)]
   exact Bool.false_ne_true
  rw [hfalse]
  have done : ∀ (i:Int) (Q:Prop),i=(q.nw:Int)→kr [] [] 34 2001 14 (s34 q lo hi) (fun _=>e34 false) (fun i=>i+1) Q i:=fun i Q hiN=>by
   refine (excl_step q lo hi false i Q).mpr ?_
   have en:Int.ofNat q.nw=(q.nw:Int):=rfl
   refine Cond.mkP (fun h=>absurd h (by omega)) fun _=>?_
   trivial
  exact done (j:Int) _ (by omega)
theorem excl_ok (q:Query) (lo hi:Nat→Int) (hn:q.nw≤6) (hc:condsOp q): CallGives PP II 34 [.agg (queryAV q),.agg (coverC lo hi)] (AH.blank 12) (.ret (.bool (exclF q.nw q.C (coverC lo hi))) (AH.blank 12)):=by
 have hl:=excl_loop q lo hi hn hc
 generalize exclF q.nw q.C (coverC lo hi)=b at*
 refine of_kb (ks:=[]) (T:=[(2001,14,s34 q lo hi 0,e34 b)]) (fun _=>rfl) ?_
 rw [excl_vc]
 refine ⟨hl,?_⟩
 refine EqI.mk rfl (EqI.mk rfl (EqI.mk rfl (EqI.mk rfl (EqI.mk rfl (EqI.mk rfl (EqI.mk rfl (EqI.mk rfl (EqI.mk rfl (EqI.mk rfl (EqI.mk rfl (EqI.mk rfl (EqI.mk rfl (EqI.mk rfl (EqI.mk rfl (EqI.mk rfl (EqN.mk rfl ⟨qRows _ _,EqN.mk rfl ⟨gRows _ _,EqI.mk rfl (EqI.mk rfl (EqB.mk rfl (EqB.mk rfl (EqI.mk rfl (EqN.mk rfl ⟨qRows _ _,EqI.mk rfl ?_⟩)))))⟩⟩))))))))))))))))
 cases b with
 | true=>rfl
 | false=>rfl
end Go.Sx
end
section
namespace Go.Sx.Small
inductive Pt where
 | fact
 | closed
 | node (l r:Pt)
def kinds:Pt→List Int
 | .fact=>[2]
 | .closed=>[3]
 | .node l r=>1::(kinds l++kinds r)
def facts:Pt→Nat
 | .fact=>1
 | .closed=>0
 | .node l r=>facts l+facts r
def opens:Pt→Nat
 | .node l r=>1+opens l+opens r
 | _=>0
def height:Pt→Nat
 | .node l r=>1+max (height l) (height r)
 | _=>0
def idleP:Pt→Bool
 | .node l r=>Nat.beq (facts l+facts r) 0||(idleP l||idleP r)
 | _=>false
def eat:List Int→Int→Nat→Nat
 | [],_,f=>f
 | k::ks,left,f=>bif decide (left>0) then eat ks (bif decide (k=1) then left-1+2 else left-1) (bif decide (k=2) then f+1 else f) else f
def idleL:List Int→Bool
 | []=>false
 | k::ks=>(decide (k=1)&&Nat.beq (eat ks 2 0) 0)||idleL ks
def factsL:List Int→Nat
 | []=>0
 | k::ks=>(bif decide (k=2) then 1 else 0)+factsL ks
def bits:Nat→Nat→Nat
 | 0,_=>0
 | c+1,n=>bif Nat.beq n 0 then 0 else 1+bits c (n/2)
theorem eat_zero (l:List Int) (f:Nat): eat l 0 f=f:=by cases l<;>simp [eat]
theorem eat_kinds : ∀ (p:Pt) (rest:List Int) (left:Int) (f:Nat),0≤left→eat (kinds p++rest) (left+1) f=eat rest left (f+facts p):=by
 intro p
 induction p with
 | fact=>intro rest left f h;simp [kinds,eat,facts,show (left+1>0) from by omega]
 | closed=>intro rest left f h;simp [kinds,eat,facts,show (left+1>0) from by omega]
 | node l r ihl ihr=>
  intro rest left f h
  simp only [kinds,List.cons_append,eat,decide_eq_true (show (left+1>0) from by omega),cond_true,decide_true,show decide ((1:Int)=2)=false from rfl,cond_false]
  rw [show left+1-1+2=(left+1)+1 by omega,List.append_assoc,ihl _ _ _ (by omega),ihr _ _ _ h,facts,Nat.add_assoc]
theorem idle_kinds : ∀ (p:Pt) (rest:List Int),idleL (kinds p++rest)=(idleP p||idleL rest):=by
 intro p
 induction p with
 | fact=>intro rest;simp [kinds,idleL,idleP]
 | closed=>intro rest;simp [kinds,idleL,idleP]
 | node l r ihl ihr=>
  intro rest
  simp only [kinds,List.cons_append,idleL,decide_true,Bool.true_and,idleP]
  rw [List.append_assoc,ihl,ihr,show (2:Int)=(1:Int)+1 from rfl,eat_kinds l _ 1 0 (by omega),show (1:Int)=(0:Int)+1 from rfl,eat_kinds r _ 0 _ (by omega),eat_zero]
  simp only [Nat.zero_add,Bool.or_assoc]
theorem facts_kinds : ∀ (p:Pt) (rest:List Int),factsL (kinds p++rest)=facts p+factsL rest:=by
 intro p
 induction p with
 | fact=>intro rest;simp [kinds,factsL,facts]
 | closed=>intro rest;simp [kinds,factsL,facts]
 | node l r ihl ihr=>
  intro rest
  simp only [kinds,List.cons_append,factsL,facts,show decide ((1:Int)=2)=false from rfl,cond_false,Nat.zero_add]
  rw [List.append_assoc,ihl,ihr,Nat.add_assoc]
theorem len_kinds : ∀ p:Pt,(kinds p).length=2*opens p+1:=by
 intro p
 induction p with
 | fact=>rfl
 | closed=>rfl
 | node l r ihl ihr=>simp only [kinds,List.length_cons,List.length_append,ihl,ihr,opens];omega
theorem opens_le : ∀ p:Pt,idleP p=false→opens p≤facts p*height p:=by
 intro p
 induction p with
 | fact=>intro _;simp [opens]
 | closed=>intro _;simp [opens]
 | node l r ihl ihr=>
  intro h
  simp only [idleP,Bool.or_eq_false_iff] at h
  have h0:facts l+facts r≠0:=fun e=>by rw [e] at h;exact absurd h.1 (by decide)
  have h1:=ihl h.2.1
  have h2:=ihr h.2.2
  have a1:facts l*height l≤facts l*max (height l) (height r):=Nat.mul_le_mul_left _ (Nat.le_max_left _ _)
  have a2:facts r*height r≤facts r*max (height l) (height r):=Nat.mul_le_mul_left _ (Nat.le_max_right _ _)
  simp only [opens,facts,height,Nat.mul_add,Nat.mul_one,Nat.add_mul]
  omega
theorem lt_bits : ∀ (c n : Nat), n ≤ c → n < 2 ^ bits c n := by
  intro c
  induction c with
  | zero => intro n h; have : n = 0 := by omega
            subst this; simp [bits]
  | succ c ih =>
    intro n h
    unfold bits
    cases e : Nat.beq n 0 with
    | true => have := Nat.eq_of_beq_eq_true e; subst this; simp
    | false =>
      have hn : n ≠ 0 := fun h => by subst h; cases e
      have := ih (n / 2) (by omega)
      rw [cond_false, Nat.pow_add]
      omega
theorem small (p:Pt) (m h:Nat) (h1:opens p+1≤m) (h2:height p≤h) (d:Nat) (hd:h≤d):
  (kinds p).length≤2*m-1∧(idleL (kinds p)=true∨(kinds p).length≤max 1 (factsL (kinds p)+2*factsL (kinds p)*d)):=by
 have e1:=len_kinds p
 have e2:factsL (kinds p)=facts p:=by have:=facts_kinds p [];simpa [factsL] using this
 have e3:idleL (kinds p)=idleP p:=by have:=idle_kinds p [];simpa [idleL] using this
 refine ⟨by omega,?_⟩
 rw [e3,e2,e1]
 cases hi:idleP p with
 | true=>exact .inl rfl
 | false=>
  right
  have h3:=opens_le p hi
  by_cases hf:facts p=0
  ·rw [hf] at h3⊢
   simp at h3
   rw [h3];simp
  ·have h4:facts p*height p≤facts p*d:=Nat.mul_le_mul_left _ (Nat.le_trans h2 hd)
   have:2*opens p+1≤facts p+2*facts p*d:=by
    rw [Nat.mul_assoc];omega
   omega
end Go.Sx.Small
end
section
namespace Go.Sx
open Small
structure Piece where
 (k:Int) (x:Fact) (nd:Node)
def zeroNode:Node:=⟨fun _=>0,fun _=>0,[],[]⟩
def closedP (n:Node): Piece:=⟨3,zeroFact,n⟩
def factP (x:Fact): Piece:=⟨2,x,zeroNode⟩
def openP:Piece:=⟨1,zeroFact,zeroNode⟩
def pieceAV (p:Piece): List AV:=.int .i64 p.k::(factAV p.x++nodeAV p.nd)
def piecesT (ex:Node→Bool): Tree→List Piece
 | .leaf x=>match ex (leafF x) with | true=>[closedP (leafF x)] | false=>[factP x]
 | .node l r=>match ex (joinF (topF l) (topF r)) with
  | true=>[closedP (joinF (topF l) (topF r))]
  | false=>openP::(piecesT ex l++piecesT ex r)
def pruneT (ex:Node→Bool): Tree→Pt
 | .leaf x=>match ex (leafF x) with | true=> .closed | false=> .fact
 | .node l r=>match ex (joinF (topF l) (topF r)) with
  | true=> .closed
  | false=> .node (pruneT ex l) (pruneT ex r)
def leavesT:Tree→Nat
 | .leaf _=>1
 | .node l r=>leavesT l+leavesT r
def depthT:Tree→Nat
 | .leaf _=>0
 | .node l r=>1+max (depthT l) (depthT r)
theorem kinds_pieces (ex:Node→Bool): ∀ t,(piecesT ex t).map Piece.k=kinds (pruneT ex t)
 | .leaf x=>by unfold piecesT pruneT;split<;>rfl
 | .node l r=>by
  unfold piecesT pruneT
  split
  ·rfl
  ·simp only [List.map_cons,List.map_append,kinds_pieces ex l,kinds_pieces ex r,kinds];rfl
theorem leaves_pos : ∀ t,1≤leavesT t
 | .leaf _=>Nat.le_refl _
 | .node l r=>by have:=leaves_pos l;unfold leavesT;omega
theorem opens_prune (ex:Node→Bool): ∀ t,opens (pruneT ex t)+1≤leavesT t
 | .leaf x=>by unfold pruneT;split<;>exact Nat.le_refl _
 | .node l r=>by
  have h1:=opens_prune ex l
  have h2:=opens_prune ex r
  have h3:=leaves_pos l
  have h4:=leaves_pos r
  unfold pruneT leavesT
  split
  ·simp only [opens];omega
  ·simp only [opens];omega
theorem height_prune (ex:Node→Bool): ∀ t,height (pruneT ex t)≤depthT t
 | .leaf x=>by unfold pruneT;split<;>exact Nat.le_refl _
 | .node l r=>by
  have h1:=height_prune ex l
  have h2:=height_prune ex r
  unfold pruneT depthT
  split
  ·simp only [height];omega
  ·simp only [height];omega
theorem grow_facts : ∀ (d n:Nat) (F:Nat→Fact) (e:Nat),growOk d n=true→n≤2^e→leavesT (growT d n F)=n∧depthT (growT d n F)≤e:=by
 intro d
 induction d with
 | zero=>
  intro n F e h _
  simp only [growOk,Bool.and_eq_true] at h
  have a:=Nat.le_of_ble_eq_true h.1
  have b:=Nat.le_of_ble_eq_true h.2
  simp at b;omega
 | succ d ih=>
  intro n F e h he
  simp only [growOk,Bool.and_eq_true] at h
  have a:=Nat.le_of_ble_eq_true h.1
  have b:=Nat.le_of_ble_eq_true h.2
  unfold growT
  cases hb:Nat.ble n 1 with
  | true=>
   have:=Nat.le_of_ble_eq_true hb
   exact ⟨by show 1=n;omega,Nat.zero_le _⟩
  | false=>
   have hn:2≤n:=Nat.lt_of_not_le fun e=>by rw [Nat.ble_eq_true_of_le e] at hb;cases hb
   have hf:=half_facts hn
   have hl:=half_le (d:=d) hn (by rw [Nat.pow_succ] at b;omega)
   cases e with
   | zero=>simp at he;omega
   | succ e=>
    have hl2:=half_le (d:=e+1) hn he
    have hp:2^(e+1)=2*2^e:=by rw [Nat.pow_succ];omega
    obtain ⟨l1,l2⟩:=ih (halfN n) F e (by simp only [growOk,Bool.and_eq_true];exact ⟨Nat.ble_eq_true_of_le hf.1,Nat.ble_eq_true_of_le hl⟩) (by omega)
    obtain ⟨r1,r2⟩:=ih (n-halfN n) (fun i=>F (halfN n+i)) e (by simp only [growOk,Bool.and_eq_true];exact ⟨Nat.ble_eq_true_of_le (by omega),Nat.ble_eq_true_of_le (by omega)⟩) (by omega)
    simp only [leavesT,depthT]
    omega
def kAt (ks:List Int) (i:Nat): Int:=ks.getD i 0
def idleTo (ks:List Int): Nat→Bool
 | 0=>false
 | i+1=>idleTo ks i||(decide (kAt ks i=1)&&Nat.beq (eat (ks.drop (i+1)) 2 0) 0)
def factsTo (ks:List Int): Nat→Nat
 | 0=>0
 | i+1=>factsTo ks i+(bif decide (kAt ks i=2) then 1 else 0)
theorem idleTo_cons (k:Int) (ks:List Int): ∀ i,idleTo (k::ks) (i+1)=((decide (k=1)&&Nat.beq (eat ks 2 0) 0)||idleTo ks i)
 | 0=>by simp [idleTo,kAt]
 | i+1=>by
  have ih:=idleTo_cons k ks i
  have e1:kAt (k::ks) (i+1)=kAt ks i:=rfl
  show (idleTo (k::ks) (i+1)||(decide (kAt (k::ks) (i+1)=1)&&Nat.beq (eat ((k::ks).drop (i+2)) 2 0) 0))=_
  rw [ih,e1,Bool.or_assoc];rfl
theorem factsTo_cons (k:Int) (ks:List Int): ∀ i,factsTo (k::ks) (i+1)=(bif decide (k=2) then 1 else 0)+factsTo ks i
 | 0=>by simp [factsTo,kAt]
 | i+1=>by
  have ih:=factsTo_cons k ks i
  have e1:kAt (k::ks) (i+1)=kAt ks i:=rfl
  show factsTo (k::ks) (i+1)+(bif decide (kAt (k::ks) (i+1)=2) then 1 else 0)=_
  rw [ih,e1,Nat.add_assoc];rfl
theorem idleTo_all : ∀ ks,idleTo ks ks.length=idleL ks
 | []=>rfl
 | k::ks=>by rw [List.length_cons,idleTo_cons,idleTo_all ks];rfl
theorem factsTo_all : ∀ ks,factsTo ks ks.length=factsL ks
 | []=>rfl
 | k::ks=>by rw [List.length_cons,factsTo_cons,factsTo_all ks];rfl
end Go.Sx
end
section
set_option maxRecDepth 1000000
namespace Go.Sx
open Go
def opsB (nw:Nat) (C:Nat→Nat→Int): Bool:=decide (nw≤6)&&(List.range nw).all fun j=>decide (1≤C j 0)&&decide (C j 0≤8)&&decide (1≤C j 1)&&decide (C j 1≤4)
theorem all64_eq : ∀ (cs:List AV),all64 cs=true→cs=(List.range cs.length).map fun j=>AV.int .i64 (int64At cs j)
 | [],_=>rfl
 | .int .i64 i::cs,h=>by
  have ih:=all64_eq cs h
  rw [List.length_cons,List.range_succ_eq_map,List.map_cons,List.map_map]
  show AV.int .i64 i::cs=AV.int .i64 i::_
  rw [List.cons.injEq]
  exact ⟨rfl,ih⟩
theorem cover_eq {cs:List AV} (h:all64 cs=true) (hl:cs.length=16): cs=coverC (fun j=>int64At cs j) (fun j=>int64At cs (8+j)):=by
 have:=all64_eq cs h
 rw [hl] at this
 exact this
theorem all64_ren {cs:List AV} (h:all64 cs=true) (σ:Nat→Nat): AVs.ren σ cs=cs:=by
 rw [all64_eq cs h]
 generalize List.range cs.length=l
 induction l with
 | nil=>rfl
 | cons i l ih=>simp only [List.map_cons,AVs.ren,ih];rfl
noncomputable def kExcl:Known PP II:=Known.pure 34
 (fun X args kn=>match args with
  | [.agg [.fslice nw 3 f,.fslice ng 1 g,.int .i64 a,.int .i64 fl,.str nu,.str de,.int .i64 top],.agg cs]=>X.assert (intsRows 3 nw f&&intsRows 1 ng g) (X.assert (opsB nw (rowsX f)&&all64 cs&&Nat.beq cs.length 16) (kn (.bool (exclF nw (rowsX f) cs))))
  | _=>X.fail)
 fun X sem hX args kn h=>by
  split at h
  ·rename_i nw f ng g a fl nu de top cs
   obtain ⟨h1,h2⟩:=hX.assert _ _ h
   obtain ⟨h3,h4⟩:=hX.assert _ _ h2
   simp only [Bool.and_eq_true,opsB,decide_eq_true_eq] at h1 h3
   obtain ⟨⟨⟨h5,h6⟩,h7⟩,h8⟩:=h3
   have he:=cover_eq h7 (Nat.eq_of_beq_eq_true h8)
   refine ⟨_,h4,fun _=>rfl,fun σ=>?_,?_⟩
   ·show [_,AV.agg (AVs.ren σ cs)]=_
    rw [all64_ren h7];rfl
   ·have:=excl_ok ⟨nw,rowsX f,ng,fun j=>getI (g j) 0,a,fl,nu,de,top⟩ (fun j=>int64At cs j) (fun j=>int64At cs (8+j)) h5 (fun j hj=>by
     have:=List.all_eq_true.1 h6 j (List.mem_range.2 hj)
     simp only [Bool.and_eq_true,decide_eq_true_eq] at this
     exact ⟨⟨this.1.1.1,this.1.1.2⟩,this.1.2,this.2⟩)
    rw [←he] at this
    refine this.argsLe ⟨query_args h1.1 h1.2,?_,trivial⟩
    rw [he]
    exact ⟨⟨rfl,rfl⟩,⟨rfl,rfl⟩,⟨rfl,rfl⟩,⟨rfl,rfl⟩,⟨rfl,rfl⟩,⟨rfl,rfl⟩,⟨rfl,rfl⟩,⟨rfl,rfl⟩,⟨rfl,rfl⟩,⟨rfl,rfl⟩,⟨rfl,rfl⟩,⟨rfl,rfl⟩,⟨rfl,rfl⟩,⟨rfl,rfl⟩,⟨rfl,rfl⟩,⟨rfl,rfl⟩,trivial⟩
  ·exact absurd h hX.fail
end Go.Sx
end
