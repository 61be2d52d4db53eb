/- CertifyOpens is proved, part 35. -/
import Derived.Test.YtleifmkjbmhlpaaGreatDoorX34
import Derived.Test.YtleifmkjbmhlpaaGreatDoorX23
import Derived.Test.YtleifmkjbmhlpaaGreatDoorX18
import Derived.Test.YtleifmkjbmhlpaaGreatDoorX33
import Derived.Test.YtleifmkjbmhlpaaGreatDoorX31
set_option linter.unusedVariables false
set_option linter.unusedSimpArgs false
set_option linter.unusedSectionVars false
section
set_option maxRecDepth 1000000
namespace Go.Sx
open Go
noncomputable abbrev ks12:List (Known PP II):=[kValids,kIsQ,kGrow,kPut0]
theorem prove_vc (n : Nat) (F : Nat → Fact) (q : Query) (Q : AV → Prop) : (kh ks12 [] 12 [factsAV n F, .agg (queryAV q)] Q) = (let zz1 := (AV.fptr [AV.int .i64 (Node.lo (topF (growT 20 n fun i => F i)) 0), AV.int .i64 (Node.lo (topF (growT 20 n fun i => F i)) 1), AV.int .i64 (Node.lo (topF (growT 20 n fun i => F i)) 2), AV.int .i64 (Node.lo (topF (growT 20 n fun i => F i)) 3), AV.int .i64 (Node.lo (topF (growT 20 n fun i => F i)) 4), AV.int .i64 (Node.lo (topF (growT 20 n fun i => F i)) 5), AV.int .i64 (Node.lo (topF (growT 20 n fun i => F i)) 6), AV.int .i64 (Node.lo (topF (growT 20 n fun i => F i)) 7), AV.int .i64 (Node.hi (topF (growT 20 n fun i => F i)) 0), AV.int .i64 (Node.hi (topF (growT 20 n fun i => F i)) 1), AV.int .i64 (Node.hi (topF (growT 20 n fun i => F i)) 2), AV.int .i64 (Node.hi (topF (growT 20 n fun i => F i)) 3), AV.int .i64 (Node.hi (topF (growT 20 n fun i => F i)) 4),
 AV.int .i64 (Node.hi (topF (growT 20 n fun i => F i)) 5), AV.int .i64 (Node.hi (topF (growT 20 n fun i => F i)) 6), AV.int .i64 (Node.hi (topF (growT 20 n fun i => F i)) 7), AV.str (Node.l (topF (growT 20 n fun i => F i))), AV.str (Node.r (topF (growT 20 n fun i => F i))), AV.int .i64 (Fact.t (factF (growT 20 n fun i => F i))), AV.int .i64 (Fact.s (factF (growT 20 n fun i => F i))), AV.int .i64 (Fact.v (factF (growT 20 n fun i => F i))), AV.int .i64 (Fact.w (factF (growT 20 n fun i => F i))), AV.int .i64 (Fact.o (factF (growT 20 n fun i => F i))), AV.int .i64 (Fact.p (factF (growT 20 n fun i => F i))), AV.int .i64 (Fact.d (factF (growT 20 n fun i => F i))), AV.int .i64 (Fact.l (factF (growT 20 n fun i => F i))), AV.int .i64 (Fact.h (factF (growT 20 n fun i => F i))), AV.int .i64 (Fact.b (factF (growT 20 n fun i => F i))), kidsF (growT 20 n fun i => F i)] 0); (Asks (decide (n ≤ 1000000)
 && isFacts n fun i => [AV.int .i64 (F i).t, AV.int .i64 (F i).s, AV.int .i64 (F i).v, AV.int .i64 (F i).w, AV.int .i64 (F i).o, AV.int .i64 (F i).p, AV.int .i64 (F i).d, AV.int .i64 (F i).l, AV.int .i64 (F i).h, AV.int .i64 (F i).b]) (Cond (!validsF n fun i => F i) (Q (AV.tup [AV.agg [AV.int .i64 0, AV.nilSlice], AV.int .i64 210])) (Asks (intsRows 3 q.nw (qRow q.C) && intsRows 1 q.ng (gRow q.G)) (Asks (qok { nw := q.nw, C := rowsX (qRow q.C), ng := q.ng, G := fun j => q.G j, a := q.a, fl := q.fl, nu := q.nu, de := q.de, top := q.top }) (Cond (decide (Int.ofNat n > 0)) (Asks (isFacts n fun i => [AV.int .i64 (F i).t, AV.int .i64 (F i).s, AV.int .i64 (F i).v, AV.int .i64 (F i).w, AV.int .i64 (F i).o, AV.int .i64 (F i).p, AV.int .i64 (F i).d, AV.int .i64 (F i).l, AV.int .i64 (F i).h, AV.int .i64 (F i).b]) (Asks (growOk 20 n) (Asks (factsOk n fun i => F i) (Asks (isTree (fun x => True) zz1)
 (Asks (intsRows 3 q.nw (qRow q.C) && intsRows 1 q.ng (gRow q.G) && opsB q.nw (rowsX (qRow q.C)) && decide (putN q.nw (qRow q.C) zz1 ≤ 1000000)) (Asks ((List.all (List.range.loop (putN q.nw (qRow q.C) zz1) []) fun i => AVs.free (putR q.nw (qRow q.C) 0 (fun x => []) zz1 i)) && decide (putN q.nw (qRow q.C) zz1 ≤ putN q.nw (qRow q.C) zz1)) (Q (AV.tup [AV.agg [AV.int .i64 (Int.ofNat n), AV.fslice (putN q.nw (qRow q.C) zz1) 29 (putR q.nw (qRow q.C) 0 (fun x => []) zz1)], AV.int .i64 0])))))))) (Q (AV.tup [AV.agg [AV.int .i64 (Int.ofNat n), AV.nilSlice], AV.int .i64 0])))))))) := by kernel_rfl
end Go.Sx
end
section
set_option maxRecDepth 1000000
namespace Go.Sx
open Go
theorem pieces_len (ex:Node→Bool): ∀ t,(piecesT ex t).length+1≤2*leavesT t
 | .leaf x=>by unfold piecesT leavesT;split<;>exact Nat.le_refl _
 | .node l r=>by
  have h1:=pieces_len ex l
  have h2:=pieces_len ex r
  have h3:=leaves_pos l
  have h4:=leaves_pos r
  unfold piecesT leavesT
  split
  ·simp only [List.length_singleton];omega
  ·simp only [List.length_cons,List.length_append];omega
theorem of_khle {ks:List (Known PP II)} {T:LTab} {f:FuncId} {args:List AV} {a0 a':AV} (hle : ∀ σ,AV.le σ a0 a') (h:kh ks T f args (fun a=>a=a0)): CallGives PP II f args HB (.ret a' HB):=by
 obtain ⟨o,h1,h2⟩:=kbody_ok hII ks (lamT_ok PP II T) 1000 f args HB _ _ h
 cases o with
 | ret a H1=>
  obtain ⟨x,H2,k1,k2⟩:=frz_ok RI.prop_ok _ _ _ _ h1
  obtain ⟨k0,k1⟩:=Asks.and k1
  have k1:x=a0:=k1
  subst k1
  simp only [Bool.and_eq_true] at k0
  refine (h2.fzRes k2).le (ResLe.of [] (HeapLe.of (by rfl) rfl rfl rfl k0.1 (allN_iff.2 fun l hl=>?_)) (hle _))
  rw [HB_get]
  by_cases e:l=2
  ·subst e
   rw [if_pos rfl]
   have e2:sig HB.n [] H2.n 2=2:=rfl
   have:=Nat.le_of_ble_eq_true k0.1
   show if sig HB.n [] H2.n 2<H2.n then ABlk.le (sig HB.n [] H2.n) (H2.get (sig HB.n [] H2.n 2)) (ABlk.cells constAVs Access.ro) else _
   rw [e2,if_pos (by omega),roInts_eq k0.2]
   exact ⟨constAVs_le _,trivial⟩
  ·rw [if_neg e];trivial
 | pan a H1=>exact h1.elim
def provedP (n:Nat) (F:Nat→Fact) (nw:Nat) (C:Nat→Nat→Int): List Piece:=bif Nat.beq n 0 then [] else piecesT (exN nw C) (growT 20 n F)
def piecesAV (n:Nat) (l:List Piece): AV:=.agg [.int .i64 (Int.ofNat n),.fslice l.length 29 (catR 0 (fun _=>[]) l)]
def proveOk (n:Nat) (F:Nat→Fact): Bool:=validsF n F&&(Nat.beq n 0||(growOk 20 n&&factsOk n F&&Nat.ble n 400000))
theorem piecesAV_le (n:Nat) (l:List Piece) (σ:Nat→Nat): AV.le σ (piecesAV n l) (piecesAV n l):=by
 refine ⟨⟨rfl,rfl⟩,⟨rfl,rfl,fun i hi=>?_⟩,trivial⟩
 exact rowsFree_le (catR_free none_free) σ i
theorem prove_pos {n:Nat} {F:Nat→Fact} {q:Query} (h0:Nat.beq n 0=false) (h:proveOk n F=true) (h1:intsRows 3 q.nw (qRow q.C)=true) (h2:intsRows 1 q.ng (gRow q.G)=true) (h3:qok q=true) (h4:opsB q.nw q.C=true):
  CallGives PP II 12 [factsAV n F,.agg (queryAV q)] HB (.ret (.tup [piecesAV n (provedP n F q.nw q.C),.int .i64 0]) HB):=by
 unfold proveOk at h
 unfold provedP
 rw [h0] at h⊢
 rw [cond_false]
 simp only [Bool.false_or,Bool.and_eq_true] at h
 obtain ⟨hv,⟨hg,hf⟩,hn⟩:=h
 have hn:=Nat.le_of_ble_eq_true hn
 have hp:n≠0:=fun e=>by rw [e] at h0;cases h0
 have hlen:(piecesT (exN q.nw (rowsX (qRow q.C))) (growT 20 n F)).length≤1000000:=by
  have:=pieces_len (exN q.nw (rowsX (qRow q.C))) (growT 20 n F)
  have hl:=(grow_facts 20 n F 20 hg (by omega)).1
  omega
 refine of_kh (ks:=ks12) (T:=[]) (fun σ=>⟨piecesAV_le _ _ σ,⟨rfl,rfl⟩,trivial⟩) ?_
 refine (prove_vc n F q _).mpr ?_
 refine Asks.mk' _ _ (by rw [decide_eq_true (show n≤1000000 by omega),Bool.true_and];exact isFacts_facts n F) ?_
 refine Cond.mk (fun h=>?_) fun _=>?_
 ·have h:(!validsF n F)=true:=h
  rw [hv] at h;cases h
 refine Asks.mk' _ _ (by rw [h1,h2];rfl) (Asks.mk' _ _ ((qok_back q).trans h3) (Cond.mk (fun _=>?_) fun h=>?_))
 ·have hq:qcOk ⟨q.nw,qRow q.C,q.ng,gRow q.G,q.a,q.fl,q.nu,q.de,q.top⟩=true:=by unfold qcOk;rw [h1,h2];exact h4
  have ht:isTree (fun _=>True) (treeAV (growT 20 n F))=true:=isTree_tree trivial
  have eN:putN q.nw (qRow q.C) (treeAV (growT 20 n F))=(piecesT (exN q.nw (rowsX (qRow q.C))) (growT 20 n F)).length:=putN_tree _ _ _
  have eR:putR q.nw (qRow q.C) 0 (fun _=>[]) (treeAV (growT 20 n F))=catR 0 (fun _=>[]) (piecesT (exN q.nw (rowsX (qRow q.C))) (growT 20 n F)):=putR_tree _ _ _ _ _
  refine Asks.mk' _ _ (isFacts_facts _ _) (Asks.mk' _ _ hg (Asks.mk' _ _ hf (Asks.mk' _ _ ht (Asks.mk' _ _ ?_ (Asks.mk' _ _ ?_ ?_)))))
  ·show (intsRows 3 q.nw (qRow q.C)&&intsRows 1 q.ng (gRow q.G)&&opsB q.nw (rowsX (qRow q.C))&&decide (putN q.nw (qRow q.C) (treeAV (growT 20 n F))≤1000000))=true
   rw [h1,h2,show opsB q.nw (rowsX (qRow q.C))=true from h4,eN]
   simp only [Bool.and_true,Bool.true_and,decide_eq_true_eq]
   exact hlen
  ·show ((List.range (putN q.nw (qRow q.C) (treeAV (growT 20 n F)))).all (fun i=>AVs.free (putR q.nw (qRow q.C) 0 (fun _=>[]) (treeAV (growT 20 n F)) i))&&decide (putN q.nw (qRow q.C) (treeAV (growT 20 n F))≤putN q.nw (qRow q.C) (treeAV (growT 20 n F))))=true
   rw [eR,decide_eq_true (Nat.le_refl _),Bool.and_true]
   refine List.all_eq_true.2 fun i _=>?_
   show AVs.free (pieceAV _)=true
   rfl
  ·show AV.tup [.agg [.int .i64 (Int.ofNat n),.fslice (putN q.nw (qRow q.C) (treeAV (growT 20 n F))) 29 (putR q.nw (qRow q.C) 0 (fun _=>[]) (treeAV (growT 20 n F)))],.int .i64 0]=_
   rw [eN,eR]
   rfl
 ·have:=of_decide_eq_false h
  have : ¬ ((n:Int)>0):=this
  omega
theorem prove_zero {F:Nat→Fact} {q:Query} (h:proveOk 0 F=true) (h1:intsRows 3 q.nw (qRow q.C)=true) (h2:intsRows 1 q.ng (gRow q.G)=true) (h3:qok q=true):
  CallGives PP II 12 [factsAV 0 F,.agg (queryAV q)] HB (.ret (.tup [piecesAV 0 (provedP 0 F q.nw q.C),.int .i64 0]) HB):=by
 unfold proveOk at h
 simp only [Bool.and_eq_true] at h
 have hv:=h.1
 refine of_khle (a0:=.tup [.agg [.int .i64 0,.nilSlice],.int .i64 0]) (ks:=ks12) (T:=[]) (fun σ=>⟨⟨⟨rfl,rfl⟩,rfl,trivial⟩,⟨rfl,rfl⟩,trivial⟩) ?_
 refine (prove_vc 0 F q _).mpr ?_
 refine Asks.mk' _ _ rfl ?_
 refine Cond.mk (fun h=>?_) fun _=>?_
 ·have h:(!validsF 0 F)=true:=h
  rw [hv] at h;cases h
 refine Asks.mk' _ _ (by rw [h1,h2];rfl) (Asks.mk' _ _ ((qok_back q).trans h3) (Cond.mk (fun h=>?_) fun h=>rfl))
 exact absurd (of_decide_eq_true h) (by decide)
theorem prove_ok {n:Nat} {F:Nat→Fact} {q:Query} (h:proveOk n F=true) (h1:intsRows 3 q.nw (qRow q.C)=true) (h2:intsRows 1 q.ng (gRow q.G)=true) (h3:qok q=true) (h4:opsB q.nw q.C=true):
  CallGives PP II 12 [factsAV n F,.agg (queryAV q)] HB (.ret (.tup [piecesAV n (provedP n F q.nw q.C),.int .i64 0]) HB):=by
 cases h0:Nat.beq n 0 with
 | false=>exact prove_pos h0 h h1 h2 h3 h4
 | true=>
  have:=Nat.eq_of_beq_eq_true h0
  subst this
  exact prove_zero h h1 h2 h3
noncomputable def kProve:Known PP II:=Known.onHB 12
 (fun X args kn=>match args with
  | [.fslice n 10 f,.agg [.fslice nw 3 C,.fslice ng 1 g,.int .i64 a,.int .i64 fl,.str nu,.str de,.int .i64 top]]=>
   X.assert (isFacts n f) (X.assert (intsRows 3 nw C&&intsRows 1 ng g) (X.assert (proveOk n (factAt f)) (X.assert (opsB nw (rowsX C)) (X.assert (qok ⟨nw,rowsX C,ng,fun j=>getI (g j) 0,a,fl,nu,de,top⟩) (kn (.tup [piecesAV n (provedP n (factAt f) nw (rowsX C)),.int .i64 0]))))))
  | _=>X.fail)
 fun X sem hX args kn h=>by
  split at h
  ·rename_i n f nw C ng g a fl nu de top
   obtain ⟨e1,k1⟩:=hX.assert _ _ h
   obtain ⟨e2,k2⟩:=hX.assert _ _ k1
   obtain ⟨e3,k3⟩:=hX.assert _ _ k2
   obtain ⟨e4,k4⟩:=hX.assert _ _ k3
   obtain ⟨e5,k5⟩:=hX.assert _ _ k4
   rw [Bool.and_eq_true] at e2
   exact ⟨_,k5,fun _=>rfl,fun _=>rfl,(prove_ok (q:=⟨nw,rowsX C,ng,fun j=>getI (g j) 0,a,fl,nu,de,top⟩) e3 (qRow_ints e2.1) (gRow_ints e2.2) e5 e4).argsLe ⟨isFacts_ok e1,query_args e2.1 e2.2,trivial⟩⟩
  ·exact absurd h hX.fail
end Go.Sx
end
section
set_option maxRecDepth 1000000
namespace Go.Sx
open Go
structure LW where
 (L:Nat) (F:Nat→Fact) (M:Nat) (p:Nat→Piece)
noncomputable def h4 (w:LW): AH:={n:=18,t:=Tr.ofList [(17,.cells [.int .i64 (Int.ofNat w.L),.fslice w.M 29 (fun j=>pieceAV (w.p j))] (.ty 38))]}
noncomputable def s4 (w:LW) (i fc:Int) (b:Bool): St:={t:=Tr.ofList [(5,.bool true),(6,factsAV w.L w.F),(7,.ptr 17 0 0 0),(9,.int .i64 fc),(10,.bool b),(11,.int .i64 i)],nt:=126,H:=h4 w,df:=[]}
noncomputable def e4 (w:LW) (fc:Int) (b:Bool): GE:=.one (.x 0 {t:=Tr.ofList [(5,.bool true),(6,factsAV w.L w.F),(7,.ptr 17 0 0 0),(9,.int .i64 fc),(10,.bool b)],nt:=126,H:=h4 w,df:=[]})
end Go.Sx
end
section
set_option maxRecDepth 1000000
namespace Go.Sx
open Go
noncomputable def h3 (q:Query) (w:LW) (n:Nat) (F:Nat→Fact): AH:={n:=20,t:=Tr.ofList [(0,.cells [.fslice 5 2 opsRow] .ro),(17,.cells (queryAV q) (.ty 34)),(18,.cells [.int .i64 (Int.ofNat w.L),.fslice w.M 29 (fun j=>pieceAV (w.p j))] (.ty 38)),(19,.rows n 10 (fun j=>factAV (F j)) (.ty 43))]}
noncomputable def s3a (q:Query) (w:LW) (oN:Int→Nat) (oF:Int→Nat→Fact) (i:Int): St:={t:=Tr.ofList [(5,.bool true),(6,factsAV w.L w.F),(7,.ptr 17 0 0 0),(8,.ptr 18 0 0 0),(10,.own 19 (oN i) 10),(11,.int .i64 i)],nt:=115,H:=h3 q w (oN i) (oF i),df:=[]}
noncomputable def h3e (q:Query) (n:Nat) (F:Nat→Fact): AH:={n:=20,t:=Tr.ofList [(0,.cells [.fslice 5 2 opsRow] .ro),(17,.cells (queryAV q) (.ty 34)),(19,.rows n 10 (fun j=>factAV (F j)) (.ty 43))]}
noncomputable def e3a (q:Query) (w:LW) (n:Nat) (F:Nat→Fact): GE:=.one (.x 0 {t:=Tr.ofList [(5,.bool true),(6,factsAV w.L w.F),(7,.ptr 17 0 0 0),(10,.own 19 n 10)],nt:=115,H:=h3e q n F,df:=[]})
noncomputable def s3b (q:Query) (w:LW) (n:Nat) (F:Nat→Fact) (a:Int→Int) (i:Int): St:={t:=Tr.ofList [(5,.bool true),(6,factsAV w.L w.F),(7,.ptr 17 0 0 0),(10,.own 19 n 10),(13,.int .i64 (a i)),(14,.int .i64 i)],nt:=115,H:=h3e q n F,df:=[]}
noncomputable def e3b (n:Nat) (aE:Int): GE:=.one (.x 2 {t:=Tr.ofList [(5,.bool true),(10,.own 19 n 10),(13,.int .i64 aE)],nt:=115,H:={n:=20,t:=.e},df:=[]})
theorem opened_step (q : Query) (w : LW) (oN : Int → Nat) (oF : Int → Nat → Fact) (n : Nat) (F : Nat → Fact) (i : Int) (Q : Prop) : (kr [kExcQ] [] 3 9005 19 (s3a q w oN oF) (fun _ => e3a q w n F) (fun i => i + 1) Q i) = (let zz1 := (Asks (inR .i64 (i + 1)) (EqN (oN i + 1) (oN (i + 1)) ((RowsLe (oN i + 1) (fun i_1 => bif Nat.blt i_1 (oN i) then factAV (oF i i_1) else List.take 10 (List.drop (0 + (i_1 - oN i) * 10) [AV.int .i64 (Fact.t (Piece.x (w.p (Int.toNat i)))), AV.int .i64 (Fact.s (Piece.x (w.p (Int.toNat i)))), AV.int .i64 (Fact.v (Piece.x (w.p (Int.toNat i)))), AV.int .i64 (Fact.w (Piece.x (w.p (Int.toNat i)))), AV.int .i64 (Fact.o (Piece.x (w.p (Int.toNat i)))), AV.int .i64 (Fact.p (Piece.x (w.p (Int.toNat i)))), AV.int .i64 (Fact.d (Piece.x (w.p (Int.toNat i)))), AV.int .i64 (Fact.l (Piece.x (w.p (Int.toNat i)))), AV.int .i64 (Fact.h (Piece.x (w.p (Int.toNat i)))), AV.int .i64
 (Fact.b (Piece.x (w.p (Int.toNat i))))])) fun j => factAV (oF (i + 1) j)) ∧ EqI (Int.ofNat w.L) (Int.ofNat w.L) (EqN w.M w.M ((RowsLe w.M (fun j => pieceAV (w.p j)) fun j => pieceAV (w.p j)) ∧ EqN q.nw q.nw (RowsLe q.nw (qRow q.C) (qRow q.C) ∧ EqN q.ng q.ng (RowsLe q.ng (gRow q.G) (gRow q.G) ∧ EqI q.a q.a (EqI q.fl q.fl (EqB q.nu q.nu (EqB q.de q.de (EqI q.top q.top (RowsLe 5 opsRow opsRow ∧ EqI (i + 1) (i + 1) (true = true ∧ EqN (oN i + 1) (oN (i + 1)) (EqN w.L w.L ((RowsLe w.L (fun i => factAV (w.F i)) fun i => factAV (w.F i)) ∧ Q))))))))))))))); let zz2 := (Asks (inR .i64 (i + 1)) (EqN (oN i) (oN (i + 1)) ((RowsLe (oN i) (fun j => factAV (oF i j)) fun j => factAV (oF (i + 1) j)) ∧ EqI (Int.ofNat w.L) (Int.ofNat w.L) (EqN w.M w.M ((RowsLe w.M (fun j => pieceAV (w.p j)) fun j => pieceAV (w.p j)) ∧ EqN q.nw q.nw (RowsLe q.nw (qRow q.C) (qRow q.C) ∧ EqN q.ng q.ng (RowsLe q.ng (gRow q.G)
 (gRow q.G) ∧ EqI q.a q.a (EqI q.fl q.fl (EqB q.nu q.nu (EqB q.de q.de (EqI q.top q.top (RowsLe 5 opsRow opsRow ∧ EqI (i + 1) (i + 1) (true = true ∧ EqN (oN i) (oN (i + 1)) (EqN w.L w.L ((RowsLe w.L (fun i => factAV (w.F i)) fun i => factAV (w.F i)) ∧ Q))))))))))))))); (Cond (decide (i < Int.ofNat w.M)) (Asks (decide (0 ≤ i) && decide (i < Int.ofNat w.M)) (Cond (decide (Piece.k (w.p (Int.toNat i)) = 2)) (Asks (decide (oN i ≤ oN i) && true && true && decide ((oN i + 1) * 80 ≤ 140737488355328) && true) (Cond (decide (Piece.k (w.p (Int.toNat i)) = 3)) (Asks (intsRows 3 q.nw (qRow q.C) && intsRows 1 q.ng (gRow q.G)) (Asks (opsB q.nw (rowsX (qRow q.C)) && all64 [AV.int .i64 (Node.lo (Piece.nd (w.p (Int.toNat i))) 0), AV.int .i64 (Node.lo (Piece.nd (w.p (Int.toNat i))) 1), AV.int .i64 (Node.lo (Piece.nd (w.p (Int.toNat i))) 2), AV.int .i64 (Node.lo (Piece.nd (w.p (Int.toNat i))) 3), AV.int .i64
 (Node.lo (Piece.nd (w.p (Int.toNat i))) 4), AV.int .i64 (Node.lo (Piece.nd (w.p (Int.toNat i))) 5), AV.int .i64 (Node.lo (Piece.nd (w.p (Int.toNat i))) 6), AV.int .i64 (Node.lo (Piece.nd (w.p (Int.toNat i))) 7), AV.int .i64 (Node.hi (Piece.nd (w.p (Int.toNat i))) 0), AV.int .i64 (Node.hi (Piece.nd (w.p (Int.toNat i))) 1), AV.int .i64 (Node.hi (Piece.nd (w.p (Int.toNat i))) 2), AV.int .i64 (Node.hi (Piece.nd (w.p (Int.toNat i))) 3), AV.int .i64 (Node.hi (Piece.nd (w.p (Int.toNat i))) 4), AV.int .i64 (Node.hi (Piece.nd (w.p (Int.toNat i))) 5), AV.int .i64 (Node.hi (Piece.nd (w.p (Int.toNat i))) 6), AV.int .i64 (Node.hi (Piece.nd (w.p (Int.toNat i))) 7)] && true) (Cond (!exclF q.nw (rowsX (qRow q.C)) [AV.int .i64 (Node.lo (Piece.nd (w.p (Int.toNat i))) 0), AV.int .i64 (Node.lo (Piece.nd (w.p (Int.toNat i))) 1), AV.int .i64 (Node.lo (Piece.nd (w.p (Int.toNat i))) 2), AV.int .i64 (Node.lo
 (Piece.nd (w.p (Int.toNat i))) 3), AV.int .i64 (Node.lo (Piece.nd (w.p (Int.toNat i))) 4), AV.int .i64 (Node.lo (Piece.nd (w.p (Int.toNat i))) 5), AV.int .i64 (Node.lo (Piece.nd (w.p (Int.toNat i))) 6), AV.int .i64 (Node.lo (Piece.nd (w.p (Int.toNat i))) 7), AV.int .i64 (Node.hi (Piece.nd (w.p (Int.toNat i))) 0), AV.int .i64 (Node.hi (Piece.nd (w.p (Int.toNat i))) 1), AV.int .i64 (Node.hi (Piece.nd (w.p (Int.toNat i))) 2), AV.int .i64 (Node.hi (Piece.nd (w.p (Int.toNat i))) 3), AV.int .i64 (Node.hi (Piece.nd (w.p (Int.toNat i))) 4), AV.int .i64 (Node.hi (Piece.nd (w.p (Int.toNat i))) 5), AV.int .i64 (Node.hi (Piece.nd (w.p (Int.toNat i))) 6), AV.int .i64 (Node.hi (Piece.nd (w.p (Int.toNat i))) 7)]) False (Cond (!(decide (Fact.t (Piece.x (w.p (Int.toNat i))) = 0) && (decide (Fact.s (Piece.x (w.p (Int.toNat i))) = 0) && (decide (Fact.v (Piece.x (w.p (Int.toNat i))) = 0) && (decide (Fact.w
 (Piece.x (w.p (Int.toNat i))) = 0) && (decide (Fact.o (Piece.x (w.p (Int.toNat i))) = 0) && (decide (Fact.p (Piece.x (w.p (Int.toNat i))) = 0) && (decide (Fact.d (Piece.x (w.p (Int.toNat i))) = 0) && (decide (Fact.l (Piece.x (w.p (Int.toNat i))) = 0) && (decide (Fact.h (Piece.x (w.p (Int.toNat i))) = 0) && (decide (Fact.b (Piece.x (w.p (Int.toNat i))) = 0) && true))))))))))) False zz1)))) zz1)) (Cond (decide (Piece.k (w.p (Int.toNat i)) = 3)) (Asks (intsRows 3 q.nw (qRow q.C) && intsRows 1 q.ng (gRow q.G)) (Asks (opsB q.nw (rowsX (qRow q.C)) && all64 [AV.int .i64 (Node.lo (Piece.nd (w.p (Int.toNat i))) 0), AV.int .i64 (Node.lo (Piece.nd (w.p (Int.toNat i))) 1), AV.int .i64 (Node.lo (Piece.nd (w.p (Int.toNat i))) 2), AV.int .i64 (Node.lo (Piece.nd (w.p (Int.toNat i))) 3), AV.int .i64 (Node.lo (Piece.nd (w.p (Int.toNat i))) 4), AV.int .i64 (Node.lo (Piece.nd (w.p (Int.toNat i))) 5), AV.int
 .i64 (Node.lo (Piece.nd (w.p (Int.toNat i))) 6), AV.int .i64 (Node.lo (Piece.nd (w.p (Int.toNat i))) 7), AV.int .i64 (Node.hi (Piece.nd (w.p (Int.toNat i))) 0), AV.int .i64 (Node.hi (Piece.nd (w.p (Int.toNat i))) 1), AV.int .i64 (Node.hi (Piece.nd (w.p (Int.toNat i))) 2), AV.int .i64 (Node.hi (Piece.nd (w.p (Int.toNat i))) 3), AV.int .i64 (Node.hi (Piece.nd (w.p (Int.toNat i))) 4), AV.int .i64 (Node.hi (Piece.nd (w.p (Int.toNat i))) 5), AV.int .i64 (Node.hi (Piece.nd (w.p (Int.toNat i))) 6), AV.int .i64 (Node.hi (Piece.nd (w.p (Int.toNat i))) 7)] && true) (Cond (!exclF q.nw (rowsX (qRow q.C)) [AV.int .i64 (Node.lo (Piece.nd (w.p (Int.toNat i))) 0), AV.int .i64 (Node.lo (Piece.nd (w.p (Int.toNat i))) 1), AV.int .i64 (Node.lo (Piece.nd (w.p (Int.toNat i))) 2), AV.int .i64 (Node.lo (Piece.nd (w.p (Int.toNat i))) 3), AV.int .i64 (Node.lo (Piece.nd (w.p (Int.toNat i))) 4), AV.int .i64
 (Node.lo (Piece.nd (w.p (Int.toNat i))) 5), AV.int .i64 (Node.lo (Piece.nd (w.p (Int.toNat i))) 6), AV.int .i64 (Node.lo (Piece.nd (w.p (Int.toNat i))) 7), AV.int .i64 (Node.hi (Piece.nd (w.p (Int.toNat i))) 0), AV.int .i64 (Node.hi (Piece.nd (w.p (Int.toNat i))) 1), AV.int .i64 (Node.hi (Piece.nd (w.p (Int.toNat i))) 2), AV.int .i64 (Node.hi (Piece.nd (w.p (Int.toNat i))) 3), AV.int .i64 (Node.hi (Piece.nd (w.p (Int.toNat i))) 4), AV.int .i64 (Node.hi (Piece.nd (w.p (Int.toNat i))) 5), AV.int .i64 (Node.hi (Piece.nd (w.p (Int.toNat i))) 6), AV.int .i64 (Node.hi (Piece.nd (w.p (Int.toNat i))) 7)]) False (Cond (!(decide (Fact.t (Piece.x (w.p (Int.toNat i))) = 0) && (decide (Fact.s (Piece.x (w.p (Int.toNat i))) = 0) && (decide (Fact.v (Piece.x (w.p (Int.toNat i))) = 0) && (decide (Fact.w (Piece.x (w.p (Int.toNat i))) = 0) && (decide (Fact.o (Piece.x (w.p (Int.toNat i))) = 0) && (decide
 (Fact.p (Piece.x (w.p (Int.toNat i))) = 0) && (decide (Fact.d (Piece.x (w.p (Int.toNat i))) = 0) && (decide (Fact.l (Piece.x (w.p (Int.toNat i))) = 0) && (decide (Fact.h (Piece.x (w.p (Int.toNat i))) = 0) && (decide (Fact.b (Piece.x (w.p (Int.toNat i))) = 0) && true))))))))))) False zz2)))) zz2))) (EqN (oN i) n ((RowsLe (oN i) (fun j => factAV (oF i j)) fun j => factAV (F j)) ∧ EqN q.nw q.nw (RowsLe q.nw (qRow q.C) (qRow q.C) ∧ EqN q.ng q.ng (RowsLe q.ng (gRow q.G) (gRow q.G) ∧ EqI q.a q.a (EqI q.fl q.fl (EqB q.nu q.nu (EqB q.de q.de (EqI q.top q.top (RowsLe 5 opsRow opsRow ∧ true = true ∧ EqN (oN i) n (EqN w.L w.L ((RowsLe w.L (fun i => factAV (w.F i)) fun i => factAV (w.F i)) ∧ True))))))))))))) := by kernel_rfl
theorem facts_step (q : Query) (w : LW) (n : Nat) (F : Nat → Fact) (a : Int → Int) (aE : Int) (i : Int) (Q : Prop) : (kr [kMat, kROf, kExcQ] [] 3 18004 20 (s3b q w n F a) (fun _ => e3b n aE) (fun i => i + 1) Q i) = (Cond (decide (i < Int.ofNat w.L)) (Asks (decide (0 ≤ i) && decide (i < Int.ofNat w.L)) (Asks (intsRows 3 q.nw (qRow q.C) && intsRows 1 q.ng (gRow q.G)) (Asks (qok { nw := q.nw, C := rowsX (qRow q.C), ng := q.ng, G := fun j => q.G j, a := q.a, fl := q.fl, nu := q.nu, de := q.de, top := q.top }) (Asks (validF (w.F (Int.toNat i))) (Asks (decide (0 ≤ i) && decide (i < Int.ofNat w.L)) (Asks ((decide (q.nw = q.nw) && true && List.all (List.range.loop q.nw []) fun i => decide (q.C i 0 = q.C i 0) && (decide (q.C i 1 = q.C i 1) && (decide (q.C i 2 = q.C i 2) && true))) && ((decide (q.ng = q.ng) && true && List.all (List.range.loop q.ng []) fun i => decide (q.G i = q.G i) && true) &&
 (decide (q.a = q.a) && (decide (q.fl = q.fl) && (decide (q.nu = q.nu) && (decide (q.de = q.de) && (decide (q.top = q.top) && true))))))) (Asks (intsRows 3 q.nw (qRow q.C) && intsRows 1 q.ng (gRow q.G)) (Asks (opsB q.nw (rowsX (qRow q.C)) && all64 [AV.int .i64 (Fact.t (w.F (Int.toNat i))), AV.int .i64 (Fact.v (w.F (Int.toNat i))), AV.int .i64 (Fact.w (w.F (Int.toNat i))), AV.int .i64 (Fact.o (w.F (Int.toNat i))), AV.int .i64 (Fact.p (w.F (Int.toNat i))), AV.int .i64 (Fact.d (w.F (Int.toNat i))), AV.int .i64 (Fact.b (w.F (Int.toNat i))), AV.int .i64 (Fact.l (w.F (Int.toNat i))), AV.int .i64 (Fact.t (w.F (Int.toNat i))), AV.int .i64 (Fact.v (w.F (Int.toNat i))), AV.int .i64 (Fact.w (w.F (Int.toNat i))), AV.int .i64 (Fact.o (w.F (Int.toNat i))), AV.int .i64 (Fact.p (w.F (Int.toNat i))), AV.int .i64 (Fact.d (w.F (Int.toNat i))), AV.int .i64 (Fact.b (w.F (Int.toNat i))), AV.int .i64 (Fact.h
 (w.F (Int.toNat i)))] && true) (Cond (exclF q.nw (rowsX (qRow q.C)) [AV.int .i64 (Fact.t (w.F (Int.toNat i))), AV.int .i64 (Fact.v (w.F (Int.toNat i))), AV.int .i64 (Fact.w (w.F (Int.toNat i))), AV.int .i64 (Fact.o (w.F (Int.toNat i))), AV.int .i64 (Fact.p (w.F (Int.toNat i))), AV.int .i64 (Fact.d (w.F (Int.toNat i))), AV.int .i64 (Fact.b (w.F (Int.toNat i))), AV.int .i64 (Fact.l (w.F (Int.toNat i))), AV.int .i64 (Fact.t (w.F (Int.toNat i))), AV.int .i64 (Fact.v (w.F (Int.toNat i))), AV.int .i64 (Fact.w (w.F (Int.toNat i))), AV.int .i64 (Fact.o (w.F (Int.toNat i))), AV.int .i64 (Fact.p (w.F (Int.toNat i))), AV.int .i64 (Fact.d (w.F (Int.toNat i))), AV.int .i64 (Fact.b (w.F (Int.toNat i))), AV.int .i64 (Fact.h (w.F (Int.toNat i)))]) (Cond (matP { nw := q.nw, C := rowsX (qRow q.C), ng := q.ng, G := fun j => q.G j, a := q.a, fl := q.fl, nu := q.nu, de := q.de, top := q.top } (w.F (Int.toNat
 i))) False (Asks (inR .i64 (i + 1)) (EqN n n ((RowsLe n (fun j => factAV (F j)) fun j => factAV (F j)) ∧ EqN q.nw q.nw (RowsLe q.nw (qRow q.C) (qRow q.C) ∧ EqN q.ng q.ng (RowsLe q.ng (gRow q.G) (gRow q.G) ∧ EqI q.a q.a (EqI q.fl q.fl (EqB q.nu q.nu (EqB q.de q.de (EqI q.top q.top (RowsLe 5 opsRow opsRow ∧ true = true ∧ EqI (a i) (a (i + 1)) (EqN n n (EqN w.L w.L ((RowsLe w.L (fun i => factAV (w.F i)) fun i => factAV (w.F i)) ∧ EqI (i + 1) (i + 1) Q)))))))))))))) (Cond (decide (a i ≥ Int.ofNat n)) False (Asks (decide (0 ≤ a i) && decide (a i < Int.ofNat n)) (Asks (decide (Int.toNat (a i) < n)) (Asks (decide (0 ≤ i) && decide (i < Int.ofNat w.L)) (Cond (!(decide (Fact.t (F (Int.toNat (a i))) = Fact.t (w.F (Int.toNat i))) && (decide (Fact.s (F (Int.toNat (a i))) = Fact.s (w.F (Int.toNat i))) && (decide (Fact.v (F (Int.toNat (a i))) = Fact.v (w.F (Int.toNat i))) && (decide (Fact.w (F
 (Int.toNat (a i))) = Fact.w (w.F (Int.toNat i))) && (decide (Fact.o (F (Int.toNat (a i))) = Fact.o (w.F (Int.toNat i))) && (decide (Fact.p (F (Int.toNat (a i))) = Fact.p (w.F (Int.toNat i))) && (decide (Fact.d (F (Int.toNat (a i))) = Fact.d (w.F (Int.toNat i))) && (decide (Fact.l (F (Int.toNat (a i))) = Fact.l (w.F (Int.toNat i))) && (decide (Fact.h (F (Int.toNat (a i))) = Fact.h (w.F (Int.toNat i))) && (decide (Fact.b (F (Int.toNat (a i))) = Fact.b (w.F (Int.toNat i))) && true))))))))))) False (Asks (inR .i64 (a i + 1)) (Asks (inR .i64 (i + 1)) (EqN n n ((RowsLe n (fun j => factAV (F j)) fun j => factAV (F j)) ∧ EqN q.nw q.nw (RowsLe q.nw (qRow q.C) (qRow q.C) ∧ EqN q.ng q.ng (RowsLe q.ng (gRow q.G) (gRow q.G) ∧ EqI q.a q.a (EqI q.fl q.fl (EqB q.nu q.nu (EqB q.de q.de (EqI q.top q.top (RowsLe 5 opsRow opsRow ∧ true = true ∧ EqI (a i + 1) (a (i + 1)) (EqN n n (EqN w.L w.L ((RowsLe w.L
 (fun i => factAV (w.F i)) fun i => factAV (w.F i)) ∧ EqI (i + 1) (i + 1) Q)))))))))))))))))))))))))))) (true = true ∧ EqI (a i) aE (EqN n n True))) := by kernel_rfl
end Go.Sx
end
