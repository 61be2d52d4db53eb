/- CertifyOpens is proved, part 37. -/
import Derived.Test.YtleifmkjbmhlpaaGreatDoorX36
set_option linter.unusedVariables false
set_option linter.unusedSimpArgs false
set_option linter.unusedSectionVars false
section
set_option maxRecDepth 1000000
namespace Go.Sx
open Go
def opL (w:LW): Nat→List Fact
 | 0=>[]
 | j+1=>bif decide ((w.p j).k=2) then opL w j++[(w.p j).x] else opL w j
def opN (w:LW) (j:Nat): Nat:=(opL w j).length
def opA (w:LW) (j k:Nat): Fact:=(opL w j).getD k zeroFact
theorem opN_le (w:LW): ∀ j,opN w j≤j
 | 0=>Nat.le_refl _
 | j+1=>by
  have:=opN_le w j
  show (bif decide ((w.p j).k=2) then opL w j++[(w.p j).x] else opL w j).length≤j+1
  unfold opN at this
  cases decide ((w.p j).k=2) with
  | true=>show (opL w j++[(w.p j).x]).length≤_;rw [List.length_append];show (opL w j).length+1≤_;omega
  | false=>show (opL w j).length≤_;omega
theorem push_fact (n:Nat) (F G:Nat→Fact) (y:Fact) (h1 : ∀ k,k<n→G k=F k) (h2:G n=y):
  RowsLe (n+1) (fun i=>bif Nat.blt i n then factAV (F i) else List.take 10 (List.drop (0+(i-n)*10) (factAV y))) (fun j=>factAV (G j)):=by
 intro j hj σ
 by_cases e:j<n
 ·have hb:Nat.blt j n=true:=Nat.ble_eq_true_of_le e
  show AVs.le σ (bif Nat.blt j n then _ else _) (factAV (G j))
  rw [hb,h1 j e];exact factAV_le σ (F j)
 ·have ej:j=n:=by omega
  subst ej
  have hb:Nat.blt j j=false:=by
   cases h:Nat.blt j j with
   | false=>rfl
   | true=>have:=Nat.le_of_ble_eq_true h;omega
  show AVs.le σ (bif Nat.blt j j then _ else _) (factAV (G j))
  rw [hb,h2,Nat.sub_self]
  exact factAV_le σ y
def PieceOk (q:Query) (p:Piece): Prop:=p.k=3→exclF q.nw q.C (coverC p.nd.lo p.nd.hi)=true∧p.x=zeroFact
theorem opened_round (q:Query) (w:LW) (oN:Int→Nat) (oF:Int→Nat→Fact) (n:Nat) (F:Nat→Fact) (i:Int) (j:Nat) (hij:i=(j:Int)) (hj:j<w.M) (hM:w.M≤1000000) (h1:intsRows 3 q.nw (qRow q.C)=true) (h2:intsRows 1 q.ng (gRow q.G)=true) (hq:qok q=true)
  (hp:PieceOk q (w.p j)) (ho:oN i≤1000000) (hy:(w.p j).k=2→oN (i+1)=oN i+1∧(∀ k,k<oN i→oF (i+1) k=oF i k)∧oF (i+1) (oN i)=(w.p j).x) (hz:(w.p j).k≠2→oN (i+1)=oN i∧ ∀ k,k<oN i→oF (i+1) k=oF i k) (Q:Prop) (hQ:Q):
  kr [kExcQ] [] 3 9005 19 (s3a q w oN oF) (fun _=>e3a q w n F) (fun i=>i+1) Q i:=by
 rw [opened_step]
 have e1:Int.toNat i=j:=by omega
 have eM:Int.ofNat w.M=(w.M:Int):=rfl
 rw [e1]
 have hr:(decide (0≤i)&&decide (i<Int.ofNat w.M))=true:=by simp only [Bool.and_eq_true,decide_eq_true_eq];omega
 have hi1:inR .i64 (i+1)=true:=inR_small (by omega) (by omega)
 have hI:(intsRows 3 q.nw (qRow q.C)&&intsRows 1 q.ng (gRow q.G))=true:=by rw [h1,h2];rfl
 have fin : ∀ (n':Nat) (R:Nat→List AV),n'=oN (i+1)→RowsLe n' R (fun j=>factAV (oF (i+1) j))→Asks (inR .i64 (i+1)) (EqN n' (oN (i+1)) ((RowsLe n' R fun j=>factAV (oF (i+(1:Int)) j))∧EqI (Int.ofNat (LW.L w)) (Int.ofNat (LW.L w)) (EqN (LW.M w) (LW.M w) ((RowsLe (LW.M w) (fun j=>pieceAV (LW.p w j)) fun j=>pieceAV (LW.p w j))∧EqN (Query.nw q) (Query.nw q) (RowsLe (Query.nw q) (qRow (Query.C q)) (qRow (Query.C q))∧EqN (Query.ng q) (Query.ng q) (RowsLe (Query.ng q) (gRow (Query.G q)) (gRow (Query.G q))∧EqI (Query.a q) (Query.a q) (EqI (Query.fl q) (Query.fl q) (EqB (Query.nu q) (Query.nu q) (EqB (Query.de q) (Query.de q) (EqI (Query.top q) (Query.top q) (RowsLe (5:Nat) opsRow opsRow∧EqI (i+(1:Int)) (i+(1:Int)) (true=true∧EqN n' (oN (i+(1:Int))) (EqN (LW.L w) (LW.L w) ((RowsLe (LW.L w) (fun i=>factAV (LW.F w i)) fun i=>factAV (LW.F w i))∧Q)))))))))))))):=fun n' R e k=>
  Asks.mk hi1 (EqN.mk e ⟨k,EqI.mk rfl (EqN.mk rfl ⟨rowsP w,EqN.mk rfl ⟨qRows _ _,EqN.mk rfl ⟨gRows _ _,EqI.mk rfl (EqI.mk rfl (EqB.mk rfl (EqB.mk rfl (EqI.mk rfl ⟨opsRows,EqI.mk rfl ⟨rfl,EqN.mk e (EqN.mk rfl ⟨rowsF w,hQ⟩)⟩⟩))))⟩⟩⟩)⟩)
 have same : ∀ (hk:(w.p j).k≠2),RowsLe (oN i) (fun j=>factAV (oF i j)) (fun j=>factAV (oF (i+1) j)):=fun hk k hkn σ=>by
  show AVs.le σ (factAV (oF i k)) (factAV (oF (i+1) k))
  rw [(hz hk).2 k hkn];exact factAV_le σ (oF i k)
 refine Cond.mkP (fun _=>?_) fun h=>absurd h (by omega)
 refine Asks.mk' _ _ hr ?_
 refine Cond.mkP (fun k2=>?_) fun k2=>?_
 ·obtain ⟨y1,y2,y3⟩:=hy k2
  refine Asks.mk' _ _ (by
   have b:(oN i+1)*80≤140737488355328:=by omega
   rw [decide_eq_true (Nat.le_refl (oN i)),decide_eq_true b];rfl) ?_
  refine Cond.mkP (fun k3=>absurd k3 (by omega)) fun _=>?_
  exact fin _ _ y1.symm (push_fact (oN i) (oF i) (oF (i+1)) (w.p j).x y2 y3)
 ·refine Cond.mkP (fun k3=>?_) fun _=>fin _ _ (hz k2).1.symm (same k2)
  obtain ⟨x1,x2⟩:=hp k3
  refine Asks.mk' _ _ hI (Asks.mk' _ _ ?_ ?_)
  ·have:=opsB_of hq
   show (opsB q.nw q.C&&true&&true)=true
   rw [this];rfl
  ·refine Cond.mk (fun h=>?_) fun _=>?_
   ·have h:(!exclF q.nw q.C (coverC (w.p j).nd.lo (w.p j).nd.hi))=true:=h
    rw [x1] at h;cases h
   ·rw [x2]
    refine Cond.mk (fun h=>?_) fun _=>fin _ _ (hz k2).1.symm (same k2)
    cases h
theorem opened_loop {q:Query} {w:LW} (hM:w.M≤1000000) (h1:intsRows 3 q.nw (qRow q.C)=true) (h2:intsRows 1 q.ng (gRow q.G)=true) (hq:qok q=true) (hp : ∀ j,j<w.M→PieceOk q (w.p j)):
  LoopAt PP II false (loopOf II 3 9005) 19 (s3a q w (fun i=>opN w i.toNat) (fun i=>opA w i.toNat) 0) (e3a q w (opN w w.M) (opA w w.M)):=by
 have key:=LoopAt.of (ι:=Nat) hII [kExcQ] (lamT_ok PP II []) 1000 (c:=loopOf II 3 9005) (ir:=false) 19 (fun j=>j≤w.M) (fun j=>s3a q w (fun i=>opN w i.toNat) (fun i=>opA w i.toNat) (j:Int)) (fun _=>e3a q w (opN w w.M) (opA w w.M)) (fun j=>w.M-j) (fun j=>j+1) 0 rfl (Nat.zero_le _) fun j hj=>?_
 ·exact key
 by_cases hlt:j<w.M
 ·have e1:((j:Int)).toNat=j:=by omega
  have e2:((j:Int)+1).toNat=j+1:=by omega
  have hN:=opN_le w j
  have:=opened_round q w (fun i=>opN w i.toNat) (fun i=>opA w i.toNat) (opN w w.M) (opA w w.M) (j:Int) j rfl hlt hM h1 h2 hq (hp j hlt)
   (by show opN w ((j:Int)).toNat≤_;rw [e1];omega)
   (fun hk=>by
    show opN w ((j:Int)+1).toNat=opN w ((j:Int)).toNat+1∧(∀ k,k<opN w ((j:Int)).toNat→opA w ((j:Int)+1).toNat k=opA w ((j:Int)).toNat k)∧opA w ((j:Int)+1).toNat (opN w ((j:Int)).toNat)=(w.p j).x
    rw [e1,e2]
    have hs:opL w (j+1)=opL w j++[(w.p j).x]:=by
     show (bif decide ((w.p j).k=2) then _ else _)=_
     rw [decide_eq_true hk];rfl
    unfold opN opA
    rw [hs]
    refine ⟨by rw [List.length_append];rfl,fun k hk=>?_,?_⟩
    ·rw [List.getD_eq_getElem?_getD,List.getD_eq_getElem?_getD,List.getElem?_append_left hk]
    ·rw [List.getD_eq_getElem?_getD,List.getElem?_append_right (Nat.le_refl _),Nat.sub_self];rfl)
   (fun hk=>by
    show opN w ((j:Int)+1).toNat=opN w ((j:Int)).toNat∧ ∀ k,k<opN w ((j:Int)).toNat→opA w ((j:Int)+1).toNat k=opA w ((j:Int)).toNat k
    rw [e1,e2]
    have hs:opL w (j+1)=opL w j:=by
     show (bif decide ((w.p j).k=2) then _ else _)=_
     rw [decide_eq_false hk];rfl
    unfold opN opA
    rw [hs]
    exact ⟨rfl,fun _ _=>rfl⟩) (j+1≤w.M∧w.M-(j+1)<w.M-j∧(e3a q w (opN w w.M) (opA w w.M)).pick=(e3a q w (opN w w.M) (opA w w.M)).pick) ⟨hlt,by omega,rfl⟩
  exact this
 ·have hj:j=w.M:=by have:j≤w.M:=hj;omega
  have done : ∀ (i:Int) (Q:Prop),i=(w.M:Int)→kr [kExcQ] [] 3 9005 19 (s3a q w (fun i=>opN w i.toNat) (fun i=>opA w i.toNat)) (fun _=>e3a q w (opN w w.M) (opA w w.M)) (fun i=>i+1) Q i:=fun i Q hiN=>by
   have e1:i.toNat=w.M:=by omega
   refine (opened_step q w _ _ _ _ i Q).mpr ?_
   have en:Int.ofNat w.M=(w.M:Int):=rfl
   refine Cond.mkP (fun h=>absurd h (by omega)) fun _=>?_
   rw [e1]
   exact EqN.mk rfl ⟨fun k _ σ=>factAV_le σ _,EqN.mk rfl ⟨qRows _ _,EqN.mk rfl ⟨gRows _ _,EqI.mk rfl (EqI.mk rfl (EqB.mk rfl (EqB.mk rfl (EqI.mk rfl ⟨opsRows,rfl,EqN.mk rfl (EqN.mk rfl ⟨rowsF w,trivial⟩)⟩))))⟩⟩⟩
  exact done (j:Int) _ (by omega)
end Go.Sx
end
section
set_option maxRecDepth 1000000
namespace Go.Sx
open Go
theorem law3_vc (n : Nat) (X : Nat → Nat → Int) (m : Nat) (C : Nat → Nat → Int) (agg g top : Int) (q : Query) (w : LW) (oN : Int → Nat) (oF : Int → Nat → Fact) (nE : Nat) (FE : Nat → Fact) (a : Int → Int) (aE : Int) (Q : AV → Prop) : (kbody [kSane, kMade10, kMade30, kProve] (lamT PP II [(9005, 19, s3a q w oN oF 0, e3a q w nE FE), (18004, 20, s3b q w nE FE a 0, e3b nE aE)]) 1000 3 [.fslice n 4 (xRow X), .agg [.int .i64 agg, .fslice m 3 (qRow C), .int .i64 g, .int .i64 top]] Hs (fun a H => Asks (Nat.ble 14 H.n) (Q a)) (fun _ _ => False)) = (let zz1 := (provedP (List.length (madeL (rowsX (xRow X)) (min n 40))) (fun i => getL (madeL (rowsX (xRow X)) (min n 40)) i) (Query.nw (madeQ agg m (rowsX (qRow C)) g top)) (rowsX (qRow (Query.C (madeQ agg m (rowsX (qRow C)) g top))))); (Asks (hsIs (ABlk.cells [AV.fslice 5 2 opsRow] Access.ro) (ABlk.cells [AV.str [{ toBitVec := { toFin := ⟨48, Nat.mod_lt 48 (BitVec.ofNat._proof_1 8)⟩ } }],
 AV.str [{ toBitVec := { toFin := ⟨49, Nat.mod_lt 49 (BitVec.ofNat._proof_1 8)⟩ } }]] Access.ro) (ABlk.cells [AV.map (some 13)] Access.ro) (ABlk.map [(AV.any, AV.any), (AV.int .i64 1, AV.agg [AV.fn 317 [] []]), (AV.int .i64 2, AV.agg [AV.fn 319 [] []]), (AV.int .i64 3, AV.agg [AV.fn 321 [] []]), (AV.int .i64 4, AV.agg [AV.fn 323 [] []]), (AV.int .i64 5, AV.agg [AV.fn 324 [] []])])) (Asks (intsRows 4 n (xRow X)) (Asks (intsRows 3 m (qRow C) && inR .i64 agg && inR .i64 g && inR .i64 top) (Asks (isFacts (List.length (madeL (rowsX (xRow X)) (min n 40))) fun i => factAV (getL (madeL (rowsX (xRow X)) (min n 40)) i)) (Asks (intsRows 3 (Query.nw (madeQ agg m (rowsX (qRow C)) g top)) (qRow (Query.C (madeQ agg m (rowsX (qRow C)) g top))) && intsRows 1 (Query.ng (madeQ agg m (rowsX (qRow C)) g top)) (gRow (Query.G (madeQ agg m (rowsX (qRow C)) g top)))) (Asks (proveOk (List.length (madeL (rowsX
 (xRow X)) (min n 40))) fun i => getL (madeL (rowsX (xRow X)) (min n 40)) i) (Asks (opsB (Query.nw (madeQ agg m (rowsX (qRow C)) g top)) (rowsX (qRow (Query.C (madeQ agg m (rowsX (qRow C)) g top))))) (Asks (qok { nw := Query.nw (madeQ agg m (rowsX (qRow C)) g top), C := rowsX (qRow (Query.C (madeQ agg m (rowsX (qRow C)) g top))), ng := Query.ng (madeQ agg m (rowsX (qRow C)) g top), G := fun j => Query.G (madeQ agg m (rowsX (qRow C)) g top) j, a := Query.a (madeQ agg m (rowsX (qRow C)) g top), fl := Query.fl (madeQ agg m (rowsX (qRow C)) g top), nu := Query.nu (madeQ agg m (rowsX (qRow C)) g top), de := Query.de (madeQ agg m (rowsX (qRow C)) g top), top := Query.top (madeQ agg m (rowsX (qRow C)) g top) }) (LoopAt PP II false (loopOf II 3 9005) 19 (s3a q w oN oF 0) (e3a q w nE FE) ∧ EqN (oN 0) 0 (EqI (Int.ofNat (List.length (madeL (rowsX (xRow X)) (min n 40)))) (Int.ofNat w.L) (EqN
 (List.length zz1) w.M ((RowsLe (List.length zz1) (catR 0 (fun x => []) zz1) fun j => pieceAV (w.p j)) ∧ EqN (Query.nw (madeQ agg m (rowsX (qRow C)) g top)) q.nw (RowsLe (Query.nw (madeQ agg m (rowsX (qRow C)) g top)) (qRow (Query.C (madeQ agg m (rowsX (qRow C)) g top))) (qRow q.C) ∧ EqN (Query.ng (madeQ agg m (rowsX (qRow C)) g top)) q.ng (RowsLe (Query.ng (madeQ agg m (rowsX (qRow C)) g top)) (gRow (Query.G (madeQ agg m (rowsX (qRow C)) g top))) (gRow q.G) ∧ EqI (Query.a (madeQ agg m (rowsX (qRow C)) g top)) q.a (EqI (Query.fl (madeQ agg m (rowsX (qRow C)) g top)) q.fl (EqB (Query.nu (madeQ agg m (rowsX (qRow C)) g top)) q.nu (EqB (Query.de (madeQ agg m (rowsX (qRow C)) g top)) q.de (EqI (Query.top (madeQ agg m (rowsX (qRow C)) g top)) q.top (RowsLe 5 opsRow opsRow ∧ true = true ∧ EqN (oN 0) 0 (EqN (List.length (madeL (rowsX (xRow X)) (min n 40))) w.L ((RowsLe (List.length (madeL (rowsX
 (xRow X)) (min n 40))) (fun i => factAV (getL (madeL (rowsX (xRow X)) (min n 40)) i)) fun i => factAV (w.F i)) ∧ LoopAt PP II false (loopOf II 3 18004) 20 (s3b q w nE FE a 0) (e3b nE aE) ∧ EqN nE nE ((RowsLe nE (fun j => factAV (FE j)) fun j => factAV (FE j)) ∧ EqN q.nw q.nw (RowsLe q.nw (qRow q.C) (qRow q.C) ∧ EqN q.ng q.ng (RowsLe q.ng (gRow q.G) (gRow q.G) ∧ EqI q.a q.a (EqI q.fl q.fl (EqB q.nu q.nu (EqB q.de q.de (EqI q.top q.top (RowsLe 5 opsRow opsRow ∧ true = true ∧ EqI 0 (a 0) (EqN nE nE (EqN w.L w.L ((RowsLe w.L (fun i => factAV (w.F i)) fun i => factAV (w.F i)) ∧ Q (AV.bool (decide (aE = Int.ofNat nE)))))))))))))))))))))))))))))))))))) := by kernel_rfl
end Go.Sx
end
section
set_option maxRecDepth 1000000
namespace Go.Sx
open Go
def factsT:Tree→List Fact
 | .leaf x=>[x]
 | .node l r=>factsT l++factsT r
def openedP:List Piece→List Fact
 | []=>[]
 | p::l=>bif decide (p.k=2) then p.x::openedP l else openedP l
theorem openedP_app : ∀ a b:List Piece,openedP (a++b)=openedP a++openedP b
 | [],_=>rfl
 | p::a,b=>by
  show (bif decide (p.k=2) then p.x::openedP (a++b) else openedP (a++b))=(bif decide (p.k=2) then p.x::openedP a else openedP a)++openedP b
  rw [openedP_app a b]
  cases decide (p.k=2)<;>rfl
def Within (a b:Node): Prop := ∀ j,b.lo j≤a.lo j∧a.hi j≤b.hi j
theorem Within.left {a x y:Node} (h:Within a x): Within a (joinF x y):=fun j=>by
 obtain ⟨h1,h2⟩:=h j
 show minI (x.lo j) (y.lo j)≤_∧_≤maxI (x.hi j) (y.hi j)
 unfold minI maxI
 constructor<;>split<;>omega
theorem Within.right {a x y:Node} (h:Within a y): Within a (joinF x y):=fun j=>by
 obtain ⟨h1,h2⟩:=h j
 show minI (x.lo j) (y.lo j)≤_∧_≤maxI (x.hi j) (y.hi j)
 unfold minI maxI
 constructor<;>split<;>omega
theorem within_T : ∀ (t:Tree) (x:Fact),x∈factsT t→Within (leafF x) (topF t)
 | .leaf y,x,h=>by
  have:x=y:=by simpa [factsT] using h
  rw [this];exact fun j=>⟨Int.le_refl _,Int.le_refl _⟩
 | .node l r,x,h=>by
  rcases List.mem_append.1 h with h | h
  ·exact (within_T l x h).left
  ·exact (within_T r x h).right
theorem opened_T {ex:Node→Bool} (hm : ∀ a b,Within a b→ex b=true→ex a=true): ∀ t,openedP (piecesT ex t)=(factsT t).filter fun x=>!ex (leafF x)
 | .leaf x=>by
  unfold piecesT factsT
  cases h:ex (leafF x) with
  | true=>simp [h,openedP,closedP]
  | false=>simp [h,openedP,factP]
 | .node l r=>by
  unfold piecesT
  cases h:ex (joinF (topF l) (topF r)) with
  | true=>
   show openedP [closedP _]=_
   have:(factsT (.node l r)).filter (fun x=>!ex (leafF x))=[]:=List.filter_eq_nil_iff.2 fun x hx=>by
    rw [hm _ _ (within_T (.node l r) x hx) h];simp
   rw [this]
   rfl
  | false=>
   show openedP (openP::(piecesT ex l++piecesT ex r))=(factsT l++factsT r).filter _
   rw [List.filter_append,←opened_T hm l,←opened_T hm r,←openedP_app]
   rfl
theorem pieces_ok {q:Query} {ex:Node→Bool} (he : ∀ nd,ex nd=exclF q.nw q.C (coverC nd.lo nd.hi)): ∀ (t:Tree) (p:Piece),p∈piecesT ex t→PieceOk q p
 | .leaf x,p,h=>by
  unfold piecesT at h
  intro hk
  cases hx:ex (leafF x) with
  | true=>
   rw [hx] at h
   have:p=closedP (leafF x):=by simpa using h
   subst this
   rw [he] at hx
   exact ⟨hx,rfl⟩
  | false=>
   rw [hx] at h
   have:p=factP x:=by simpa using h
   subst this
   cases hk
 | .node l r,p,h=>by
  unfold piecesT at h
  cases hx:ex (joinF (topF l) (topF r)) with
  | true=>
   rw [hx] at h
   have:p=closedP (joinF (topF l) (topF r)):=by simpa using h
   subst this
   intro _
   rw [he] at hx
   exact ⟨hx,rfl⟩
  | false=>
   rw [hx] at h
   have h:p∈openP::(piecesT ex l++piecesT ex r):=h
   rcases List.mem_cons.1 h with rfl | h
   ·intro hk;cases hk
   ·rcases List.mem_append.1 h with h | h
    ·exact pieces_ok he l p h
    ·exact pieces_ok he r p h
theorem ex_mono {q:Query} (hq:qok q=true) (a b:Node) (hw:Within a b) (h:exclF q.nw q.C (coverC b.lo b.hi)=true): exclF q.nw q.C (coverC a.lo a.hi)=true:=by
 obtain ⟨j,hj,hr⟩:=List.any_eq_true.1 h
 refine List.any_eq_true.2 ⟨j,hj,?_⟩
 obtain ⟨hf,_⟩:=(qok_conds hq).2 j (List.mem_range.1 hj)
 unfold rowX rowH at hr⊢
 simp only [Bool.not_eq_true',decide_eq_false_iff_not] at hr⊢
 have hv : ∃ k,int64At (coverC a.lo a.hi) (Int.toNat (q.C j 0-1)*1+0)=a.lo k∧int64At (coverC a.lo a.hi) (Int.toNat (q.C j 0-1)*1+8)=a.hi k∧int64At (coverC b.lo b.hi) (Int.toNat (q.C j 0-1)*1+0)=b.lo k∧int64At (coverC b.lo b.hi) (Int.toNat (q.C j 0-1)*1+8)=b.hi k:=by
  generalize q.C j 0=f at*
  have:f=1∨f=2∨f=3∨f=4∨f=5∨f=6∨f=7∨f=8:=by omega
  rcases this with rfl | rfl | rfl | rfl | rfl | rfl | rfl | rfl
  ·exact ⟨0,rfl,rfl,rfl,rfl⟩
  ·exact ⟨1,rfl,rfl,rfl,rfl⟩
  ·exact ⟨2,rfl,rfl,rfl,rfl⟩
  ·exact ⟨3,rfl,rfl,rfl,rfl⟩
  ·exact ⟨4,rfl,rfl,rfl,rfl⟩
  ·exact ⟨5,rfl,rfl,rfl,rfl⟩
  ·exact ⟨6,rfl,rfl,rfl,rfl⟩
  ·exact ⟨7,rfl,rfl,rfl,rfl⟩
 obtain ⟨k,k1,k2,k3,k4⟩:=hv
 rw [k3,k4] at hr
 rw [k1,k2]
 obtain ⟨w1,w2⟩:=hw k
 omega
end Go.Sx
end
section
set_option maxRecDepth 1000000
namespace Go.Sx
open Go
theorem openedP_take {P:List Piece} {w:LW} (hM:w.M=P.length) (hw : ∀ j,j<P.length→w.p j=P.getD j openP): ∀ j,j≤P.length→opL w j=openedP (P.take j)
 | 0,_=>rfl
 | j+1,hj=>by
  have ih:=openedP_take hM hw j (by omega)
  have e:P.take (j+1)=P.take j++[P.getD j openP]:=by
   rw [List.take_add_one,List.getD_eq_getElem?_getD,List.getElem?_eq_getElem (show j<P.length by omega)];rfl
  rw [e,openedP_app,←ih]
  show (bif decide ((w.p j).k=2) then opL w j++[(w.p j).x] else opL w j)=_
  rw [hw j (by omega)]
  show _=opL w j++(bif decide ((P.getD j openP).k=2) then [(P.getD j openP).x] else [])
  cases decide ((P.getD j openP).k=2) with
  | true=>rfl
  | false=>exact (List.append_nil _).symm
theorem opL_all {P:List Piece} {w:LW} (hM:w.M=P.length) (hw : ∀ j,j<P.length→w.p j=P.getD j openP): opL w w.M=openedP P:=by
 rw [hM,openedP_take hM hw P.length (Nat.le_refl _),List.take_length]
theorem keep_filter (q:Query) (w:LW): ∀ j,((List.range j).map w.F).filter (fun x=>!ownX q x)=((List.range j).filter fun i=>!ownX q (w.F i)).map w.F∧((List.range j).filter fun i=>!ownX q (w.F i)).length=keepN q w j
 | 0=>⟨rfl,rfl⟩
 | j+1=>by
  obtain ⟨h1,h2⟩:=keep_filter q w j
  refine ⟨by rw [List.filter_map];rfl,?_⟩
  rw [List.range_succ,List.filter_append,List.length_append,h2]
  show keepN q w j+(List.filter _ [j]).length=bif ownX q (w.F j) then keepN q w j else keepN q w j+1
  cases h:ownX q (w.F j) with
  | true=>simp [h]
  | false=>simp [h]
theorem opened_by {q:Query} {w:LW} (h:opL w w.M=((List.range w.L).map w.F).filter fun x=>!ownX q x): OpenedBy q w (opN w w.M) (opA w w.M):=by
 obtain ⟨h1,h2⟩:=keep_filter q w w.L
 refine ⟨?_,fun j hj hk=>?_⟩
 ·unfold opN
  rw [h,h1,List.length_map,h2]
 ·unfold opA
  rw [h]
  have e:w.L=j+(1+(w.L-(j+1))):=by omega
  rw [e,List.range_add,List.map_append,List.filter_append,List.getD_eq_getElem?_getD]
  obtain ⟨k1,k2⟩:=keep_filter q w j
  have hl:(((List.range j).map w.F).filter (fun x=>!ownX q x)).length=keepN q w j:=by rw [k1,List.length_map,k2]
  rw [List.getElem?_append_right (by omega),hl,Nat.sub_self,List.range_add]
  show (List.filter _ (List.map w.F (List.map _ ([0]++_))))[0]?.getD zeroFact=w.F j
  rw [List.map_append,List.map_append,List.filter_append]
  show ((List.filter _ [w.F (j+0)])++_)[0]?.getD zeroFact=w.F j
  simp [hk]
theorem factsT_grow : ∀ (d n:Nat) (F:Nat→Fact),growOk d n=true→factsT (growT d n F)=(List.range n).map F
 | 0,n,F,h=>by
  simp only [growOk,Bool.and_eq_true] at h
  have a:=Nat.le_of_ble_eq_true h.1
  have b:=Nat.le_of_ble_eq_true h.2
  omega
 | d+1,n,F,h=>by
  simp only [growOk,Bool.and_eq_true] at h
  have a:=Nat.le_of_ble_eq_true h.1
  have b:=Nat.le_of_ble_eq_true h.2
  unfold growT
  cases hb:Nat.ble n 1 with
  | true=>
   have:=Nat.le_of_ble_eq_true hb
   have:n=1:=by omega
   subst this;rfl
  | false=>
   have h2:2≤n:=by
    refine Nat.lt_of_not_le fun hle=>?_
    rw [Nat.ble_eq_true_of_le hle] at hb;cases hb
   have hf:=half_facts h2
   have hl:=half_le (d:=d) h2 (by rw [Nat.pow_succ] at b;omega)
   have gA:growOk d (halfN n)=true:=by simp only [growOk,Bool.and_eq_true];exact ⟨Nat.ble_eq_true_of_le hf.1,Nat.ble_eq_true_of_le hl⟩
   have gB:growOk d (n-halfN n)=true:=by simp only [growOk,Bool.and_eq_true];exact ⟨Nat.ble_eq_true_of_le (by omega),Nat.ble_eq_true_of_le (by omega)⟩
   show factsT (growT d (halfN n) F)++factsT (growT d (n-halfN n) fun i=>F (halfN n+i))=_
   rw [factsT_grow d _ _ gA,factsT_grow d _ _ gB]
   have e:n=halfN n+(n-halfN n):=by omega
   conv=>rhs;rw [e,List.range_add,List.map_append,List.map_map]
   rfl
end Go.Sx
end
