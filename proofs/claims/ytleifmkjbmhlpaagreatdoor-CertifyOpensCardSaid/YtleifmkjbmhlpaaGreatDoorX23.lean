/- CertifyOpens is proved, part 23. -/
import Derived.Test.YtleifmkjbmhlpaaGreatDoorX21
import Derived.Test.YtleifmkjbmhlpaaGreatDoorX22
set_option linter.unusedVariables false
set_option linter.unusedSimpArgs false
set_option linter.unusedSectionVars false
section
set_option maxRecDepth 1000000
namespace Go.Sx
open Go
theorem qRow_ints {n:Nat} {f:Nat→List AV} (h:intsRows 3 n f=true): intsRows 3 n (qRow (rowsX f))=true:=by
 refine List.all_eq_true.2 fun j hj=>?_
 have:=intsRows_ok h (List.mem_range.1 hj)
 rw [(intRow3 this).1] at this
 exact this
noncomputable def kMade30:Known PP II:=Known.pure 30
 (fun X args kn=>match args with
  | [.int .i64 agg,.fslice n 3 f,.int .i64 g,.int .i64 top]=>X.assert (intsRows 3 n f&&inR .i64 agg&&inR .i64 g&&inR .i64 top) (kn (.agg (queryAV (madeQ agg n (rowsX f) g top))))
  | _=>X.fail)
 fun X sem hX args kn h=>by
  split at h
  ·rename_i agg n f g top
   obtain ⟨h1,h2⟩:=hX.assert _ _ h
   simp only [Bool.and_eq_true] at h1
   obtain ⟨⟨⟨h3,h4⟩,h5⟩,h6⟩:=h1
   refine ⟨_,h2,fun _=>rfl,fun _=>rfl,(query_ok agg n (rowsX f) g top (qRow_ints h3) h4 h5 h6).argsLe ⟨⟨rfl,rfl⟩,⟨rfl,rfl,fun i hi=>?_⟩,⟨rfl,rfl⟩,⟨rfl,rfl⟩,trivial⟩⟩
   rw [(intRow3 (intsRows_ok h3 hi)).1];exact qRow_le (rowsX f) _ i
  ·exact absurd h hX.fail
def isTen (nu de:List UInt8): Bool:=(List.range 11).any fun k=>decide (nu=tenN k)&&decide (de=tenD k)
noncomputable def kPart:Known PP II:=Known.pure 75
 (fun X args kn=>match args with
  | [.agg [.str nu,.str de]]=>X.assert (isTen nu de) (kn (.bool true))
  | _=>X.fail)
 fun X sem hX args kn h=>by
  split at h
  ·rename_i nu de
   obtain ⟨h1,h2⟩:=hX.assert _ _ h
   obtain ⟨k,hk,hkk⟩:=List.any_eq_true.1 h1
   simp only [Bool.and_eq_true,decide_eq_true_eq] at hkk
   have:=part_ok (k:=k) (by have:=List.mem_range.1 hk;omega)
   rw [hkk.1,hkk.2]
   exact ⟨_,h2,fun _=>rfl,fun _=>rfl,this⟩
  ·exact absurd h hX.fail
noncomputable def s37a (q:Query) (i:Int): St:={t:=Tr.ofList [(1,.ptr 12 0 0 0),(35,.fslice q.nw 3 (qRow q.C)),(36,.int .i64 q.nw),(37,.int .i64 i)],nt:=121,H:={n:=13,t:=Tr.ofList [(12,.cells (queryAV q) (.ty 34))]},df:=[]}
noncomputable def s37b (q:Query) (i:Int): St:={t:=Tr.ofList [(1,.ptr 12 0 0 0),(59,.fslice q.ng 1 (gRow q.G)),(60,.int .i64 q.ng),(61,.int .i64 i)],nt:=121,H:={n:=13,t:=Tr.ofList [(12,.cells (queryAV q) (.ty 34))]},df:=[]}
noncomputable def e37a (q:Query) (i:Int): GE:=.one (.x 0 (s37a q i))
noncomputable def e37b (q:Query) (i:Int): GE:=.one (.x 2 (s37b q i))
theorem valida_step (q : Query) (i iN : Int) (Q : Prop) : (kr [] [] 37 4001 13 (s37a q) (fun _ => e37a q iN) (fun i => i + 1) Q i) = (Cond (decide (i < Int.ofNat q.nw)) (Asks (decide (0 ≤ i) && decide (i < Int.ofNat q.nw)) (Cond (decide (q.C (Int.toNat i) 0 ≥ 1)) (Cond (!decide (q.C (Int.toNat i) 0 ≤ 8)) False (Cond (decide (q.C (Int.toNat i) 1 ≥ 1)) (Cond (!decide (q.C (Int.toNat i) 1 ≤ 4)) False (Cond (decide (q.C (Int.toNat i) 2 ≥ (-1 : Int))) (Cond (!decide (q.C (Int.toNat i) 2 ≤ 4398046511104)) False (Asks (inR .i64 (i + 1)) (EqN q.nw q.nw (RowsLe q.nw (qRow q.C) (qRow q.C) ∧ EqN q.ng q.ng (RowsLe q.ng (gRow q.G) (gRow q.G) ∧ EqI q.a q.a (EqI q.fl q.fl (EqB q.nu q.nu (EqB q.de q.de (EqI q.top q.top (EqN q.nw q.nw (RowsLe q.nw (qRow q.C) (qRow q.C) ∧ EqI (i + 1) (i + 1) (EqI (Int.ofNat q.nw) (Int.ofNat q.nw) Q)))))))))))) False)) False)) False)) (EqN q.nw q.nw (RowsLe q.nw (qRow q.C)
 (qRow q.C) ∧ EqN q.ng q.ng (RowsLe q.ng (gRow q.G) (gRow q.G) ∧ EqI q.a q.a (EqI q.fl q.fl (EqB q.nu q.nu (EqB q.de q.de (EqI q.top q.top (EqN q.nw q.nw (RowsLe q.nw (qRow q.C) (qRow q.C) ∧ EqI i iN (EqI (Int.ofNat q.nw) (Int.ofNat q.nw) True))))))))))) := by kernel_rfl
theorem validb_step (q : Query) (i iN : Int) (Q : Prop) : (kr [] [] 37 10001 13 (s37b q) (fun _ => e37b q iN) (fun i => i + 1) Q i) = (Cond (decide (i < Int.ofNat q.ng)) (Asks (decide (0 ≤ i) && decide (i < Int.ofNat q.ng)) (Cond (decide (q.G (Int.toNat i) ≥ 1)) (Cond (!decide (q.G (Int.toNat i) ≤ 6)) False (Cond (decide (i > 0)) (Asks (inR .i64 (i - 1)) (Asks (decide (0 ≤ i - 1) && decide (i - 1 < Int.ofNat q.ng)) (Cond (decide (q.G (Int.toNat i) ≤ q.G (Int.toNat (i - 1)))) False (Asks (inR .i64 (i + 1)) (EqN q.nw q.nw (RowsLe q.nw (qRow q.C) (qRow q.C) ∧ EqN q.ng q.ng (RowsLe q.ng (gRow q.G) (gRow q.G) ∧ EqI q.a q.a (EqI q.fl q.fl (EqB q.nu q.nu (EqB q.de q.de (EqI q.top q.top (EqN q.ng q.ng (RowsLe q.ng (gRow q.G) (gRow q.G) ∧ EqI (i + 1) (i + 1) (EqI (Int.ofNat q.ng) (Int.ofNat q.ng) Q)))))))))))))) (Asks (inR .i64 (i + 1)) (EqN q.nw q.nw (RowsLe q.nw (qRow q.C) (qRow q.C) ∧ EqN q.ng
 q.ng (RowsLe q.ng (gRow q.G) (gRow q.G) ∧ EqI q.a q.a (EqI q.fl q.fl (EqB q.nu q.nu (EqB q.de q.de (EqI q.top q.top (EqN q.ng q.ng (RowsLe q.ng (gRow q.G) (gRow q.G) ∧ EqI (i + 1) (i + 1) (EqI (Int.ofNat q.ng) (Int.ofNat q.ng) Q))))))))))))) False)) (EqN q.nw q.nw (RowsLe q.nw (qRow q.C) (qRow q.C) ∧ EqN q.ng q.ng (RowsLe q.ng (gRow q.G) (gRow q.G) ∧ EqI q.a q.a (EqI q.fl q.fl (EqB q.nu q.nu (EqB q.de q.de (EqI q.top q.top (EqN q.ng q.ng (RowsLe q.ng (gRow q.G) (gRow q.G) ∧ EqI i iN (EqI (Int.ofNat q.ng) (Int.ofNat q.ng) True))))))))))) := by kernel_rfl
theorem valid37_vc (q : Query) (iN jN : Int) (Q : AV → Prop) : (kb [kPart] [(4001, 13, s37a q 0, e37a q iN), (10001, 13, s37b q 0, e37b q jN)] 37 [.agg (queryAV q)] Q) = (let zz1 := (RowsLe q.nw (qRow q.C) (qRow q.C) ∧ EqN q.ng q.ng (RowsLe q.ng (gRow q.G) (gRow q.G) ∧ EqI q.a q.a (EqI q.fl q.fl (EqB q.nu q.nu (EqB q.de q.de (EqI q.top q.top (EqN q.ng q.ng (RowsLe q.ng (gRow q.G) (gRow q.G) ∧ EqI (Int.ofNat q.ng) (Int.ofNat q.ng) (Cond (decide (q.a = 1)) (Cond (decide (q.fl = 0)) (Q (AV.bool (List.beq q.nu [] && (List.beq q.de [] && true)))) (Q (AV.bool false))) (Cond (decide (q.a = 5)) (Cond (decide (q.fl ≥ 7)) (Cond (decide (q.fl ≤ 8)) (Asks (isTen q.nu q.de) (Q (AV.bool true))) (Q (AV.bool false))) (Q (AV.bool false))) (Cond (decide (q.a ≥ 2)) (Cond (decide (q.a ≤ 4)) (Cond (decide (q.fl ≥ 7)) (Cond (decide (q.fl ≤ 8)) (Q (AV.bool (List.beq q.nu [] && (List.beq q.de [] && true)))) (Q
 (AV.bool false))) (Q (AV.bool false))) (Q (AV.bool false))) (Q (AV.bool false))))))))))))); (Cond (decide (Int.ofNat q.nw > 6)) (Q (AV.bool false)) (Cond (decide (Int.ofNat q.ng > 3)) (Q (AV.bool false)) (Cond (decide (q.top ≥ 0)) (Cond (!decide (q.top ≤ 100)) (Q (AV.bool false)) (Cond (decide (q.top > 0)) (Cond (decide (Int.ofNat q.ng = 0)) (Q (AV.bool false)) (LoopAt PP II false (loopOf II 37 4001) 13 { t := .n (.n (.n .e none (.n (.n (.n .e (some (AV.fslice q.nw 3 (qRow q.C))) .e) none .e) none .e)) (some (AV.ptr 12 0 0 0)) (.n .e none (.n (.n (.n .e (some (AV.int .i64 0)) .e) none .e) none .e))) none (.n (.n .e none (.n (.n (.n .e (some (AV.int .i64 (Int.ofNat q.nw))) .e) none .e) none .e)) none .e), nt := 121, H := { n := 13, t := .n .e none (.n (.n .e none (.n .e (some (ABlk.cells (queryAV q) (Access.ty 34))) .e)) none .e) }, df := [] } (GE.one (AExit.x 0 { t := .n (.n (.n .e none (.n (.n (.n .e (some (AV.fslice q.nw 3 (qRow q.C))) .e) none .e) none .e)) (some (AV.ptr 12 0 0 0)) (.n .e none (.n (.n (.n .e (some (AV.int .i64 iN)) .e) none .e) none .e))) none (.n (.n .e none (.n (.n (.n .e (some (AV.int .i64 (Int.ofNat q.nw))) .e) none .e) none .e)) none .e), nt := 121, H := { n := 13, t := .n .e none (.n (.n .e none (.n .e (some (ABlk.cells (queryAV q) (Access.ty 34))) .e)) none .e) }, df := [] }))
 ∧ EqN q.nw q.nw (RowsLe q.nw (qRow q.C) (qRow q.C) ∧ EqN q.ng q.ng (RowsLe q.ng (gRow q.G) (gRow q.G) ∧ EqI q.a q.a (EqI q.fl q.fl (EqB q.nu q.nu (EqB q.de q.de (EqI q.top q.top (EqN q.nw q.nw (RowsLe q.nw (qRow q.C) (qRow q.C) ∧ EqI (Int.ofNat q.nw) (Int.ofNat q.nw) (LoopAt PP II false (loopOf II 37 10001) 13 { t := .n (.n (.n .e none (.n .e none (.n .e none (.n .e (some (AV.fslice q.ng 1 (gRow q.G))) .e)))) (some (AV.ptr 12 0 0 0)) (.n .e none (.n .e none (.n .e none (.n .e (some (AV.int .i64 0)) .e))))) none (.n (.n .e none (.n .e none (.n .e none (.n .e (some (AV.int .i64 (Int.ofNat q.ng))) .e)))) none .e), nt := 121, H := { n := 13, t := .n .e none (.n (.n .e none (.n .e (some (ABlk.cells (queryAV q) (Access.ty 34))) .e)) none .e) }, df := [] } (GE.one (AExit.x 2 { t := .n (.n (.n .e none (.n .e none (.n .e none (.n .e (some (AV.fslice q.ng 1 (gRow q.G))) .e)))) (some (AV.ptr 12 0 0 0)) (.n .e none (.n .e none (.n .e none (.n .e (some (AV.int .i64 jN)) .e))))) none (.n (.n .e none (.n .e none (.n .e none (.n .e (some (AV.int .i64 (Int.ofNat q.ng))) .e)))) none .e), nt := 121, H := { n := 13, t := .n .e none (.n (.n .e none (.n .e (some (ABlk.cells (queryAV q) (Access.ty 34))) .e)) none .e) }, df := [] }))
 ∧ EqN q.nw q.nw zz1))))))))))) (LoopAt PP II false (loopOf II 37 4001) 13 { t := .n (.n (.n .e none (.n (.n (.n .e (some (AV.fslice q.nw 3 (qRow q.C))) .e) none .e) none .e)) (some (AV.ptr 12 0 0 0)) (.n .e none (.n (.n (.n .e (some (AV.int .i64 0)) .e) none .e) none .e))) none (.n (.n .e none (.n (.n (.n .e (some (AV.int .i64 (Int.ofNat q.nw))) .e) none .e) none .e)) none .e), nt := 121, H := { n := 13, t := .n .e none (.n (.n .e none (.n .e (some (ABlk.cells (queryAV q) (Access.ty 34))) .e)) none .e) }, df := [] } (GE.one (AExit.x 0 { t := .n (.n (.n .e none (.n (.n (.n .e (some (AV.fslice q.nw 3 (qRow q.C))) .e) none .e) none .e)) (some (AV.ptr 12 0 0 0)) (.n .e none (.n (.n (.n .e (some (AV.int .i64 iN)) .e) none .e) none .e))) none (.n (.n .e none (.n (.n (.n .e (some (AV.int .i64 (Int.ofNat q.nw))) .e) none .e) none .e)) none .e), nt := 121, H := { n := 13, t := .n .e none (.n (.n .e none (.n .e (some (ABlk.cells (queryAV q) (Access.ty 34))) .e)) none .e) }, df := [] }))
 ∧ EqN q.nw q.nw (RowsLe q.nw (qRow q.C) (qRow q.C) ∧ EqN q.ng q.ng (RowsLe q.ng (gRow q.G) (gRow q.G) ∧ EqI q.a q.a (EqI q.fl q.fl (EqB q.nu q.nu (EqB q.de q.de (EqI q.top q.top (EqN q.nw q.nw (RowsLe q.nw (qRow q.C) (qRow q.C) ∧ EqI (Int.ofNat q.nw) (Int.ofNat q.nw) (LoopAt PP II false (loopOf II 37 10001) 13 { t := .n (.n (.n .e none (.n .e none (.n .e none (.n .e (some (AV.fslice q.ng 1 (gRow q.G))) .e)))) (some (AV.ptr 12 0 0 0)) (.n .e none (.n .e none (.n .e none (.n .e (some (AV.int .i64 0)) .e))))) none (.n (.n .e none (.n .e none (.n .e none (.n .e (some (AV.int .i64 (Int.ofNat q.ng))) .e)))) none .e), nt := 121, H := { n := 13, t := .n .e none (.n (.n .e none (.n .e (some (ABlk.cells (queryAV q) (Access.ty 34))) .e)) none .e) }, df := [] } (GE.one (AExit.x 2 { t := .n (.n (.n .e none (.n .e none (.n .e none (.n .e (some (AV.fslice q.ng 1 (gRow q.G))) .e)))) (some (AV.ptr 12 0 0 0)) (.n .e none (.n .e none (.n .e none (.n .e (some (AV.int .i64 jN)) .e))))) none (.n (.n .e none (.n .e none (.n .e none (.n .e (some (AV.int .i64 (Int.ofNat q.ng))) .e)))) none .e), nt := 121, H := { n := 13, t := .n .e none (.n (.n .e none (.n .e (some (ABlk.cells (queryAV q) (Access.ty 34))) .e)) none .e) }, df := [] }))
 ∧ EqN q.nw q.nw zz1)))))))))))) (Q (AV.bool false)))))) := by kernel_rfl
end Go.Sx
end
section
set_option maxRecDepth 1000000
namespace Go.Sx
open Go
def condsB (q:Query): Bool:=(List.range q.nw).all fun j=>decide (1≤q.C j 0)&&decide (q.C j 0≤8)&&decide (1≤q.C j 1)&&decide (q.C j 1≤4)&&decide (-1≤q.C j 2)&&decide (q.C j 2≤4398046511104)
def groupsB (q:Query): Bool:=(List.range q.ng).all fun j=>decide (1≤q.G j)&&decide (q.G j≤6)&&(Nat.beq j 0||decide (q.G (j-1)<q.G j))
def topB (q:Query): Bool:=decide (0≤q.top)&&decide (q.top≤100)&&(decide (q.top≤0)||Nat.blt 0 q.ng)
def aggB (q:Query): Bool:=(decide (q.a=1)&&decide (q.fl=0)&&decide (q.nu=[])&&decide (q.de=[]))||(decide (q.a=5)&&(decide (q.fl=7)||decide (q.fl=8))&&isTen q.nu q.de) ||
 (decide (2≤q.a)&&decide (q.a≤4)&&(decide (q.fl=7)||decide (q.fl=8))&&decide (q.nu=[])&&decide (q.de=[]))
def qok (q:Query): Bool:=decide (q.nw≤6)&&decide (q.ng≤3)&&condsB q&&groupsB q&&topB q&&aggB q
theorem notB {p:Prop} [Decidable p] {x y:Prop} (h:p) (k:y): Cond (!decide p) x y:=by rw [decide_eq_true h];exact k
theorem condsB_ok {q:Query} (h:condsB q=true) {j:Nat} (hj:j<q.nw): (1≤q.C j 0∧q.C j 0≤8)∧(1≤q.C j 1∧q.C j 1≤4)∧(-1≤q.C j 2∧q.C j 2≤4398046511104):=by
 have:=List.all_eq_true.1 h j (List.mem_range.2 hj)
 simp only [Bool.and_eq_true,decide_eq_true_eq] at this
 omega
theorem groupsB_ok {q:Query} (h:groupsB q=true) {j:Nat} (hj:j<q.ng): (1≤q.G j∧q.G j≤6)∧(j=0∨q.G (j-1)<q.G j):=by
 have:=List.all_eq_true.1 h j (List.mem_range.2 hj)
 simp only [Bool.and_eq_true,Bool.or_eq_true,decide_eq_true_eq] at this
 refine ⟨this.1,?_⟩
 rcases this.2 with h | h
 ·exact .inl (Nat.eq_of_beq_eq_true h)
 ·exact .inr h
theorem valida_loop (q:Query) (hn:q.nw≤6) (h:condsB q=true): LoopAt PP II false (loopOf II 37 4001) 13 (s37a q 0) (e37a q q.nw):=
 LoopAt.of (ι:=Int) hII [] (lamT_ok PP II []) 1000 13 (fun i=>0≤i∧i≤q.nw) (s37a q) (fun _=>e37a q q.nw) (fun i=>(q.nw-i).toNat) (fun i=>i+1) 0 rfl ⟨Int.le_refl _,Int.natCast_nonneg _⟩ fun i hi=>by
  refine (valida_step q i q.nw _).mpr ?_
  have e:Int.ofNat q.nw=(q.nw:Int):=rfl
  have same : ∀ {x y:Int} {Z:Prop},x=y→Z→EqN (Query.nw q) (Query.nw q) (RowsLe (Query.nw q) (qRow (Query.C q)) (qRow (Query.C q))∧EqN (Query.ng q) (Query.ng q) (RowsLe (Query.ng q) (gRow (Query.G q)) (gRow (Query.G q))∧EqI (Query.a q) (Query.a q) (EqI (Query.fl q) (Query.fl q) (EqB (Query.nu q) (Query.nu q) (EqB (Query.de q) (Query.de q) (EqI (Query.top q) (Query.top q)
    (EqN (Query.nw q) (Query.nw q) (RowsLe (Query.nw q) (qRow (Query.C q)) (qRow (Query.C q))∧EqI x y (EqI (Int.ofNat (Query.nw q)) (Int.ofNat (Query.nw q)) Z))))))))):=fun h z=>
   EqN.mk rfl ⟨qRows _ _,EqN.mk rfl ⟨gRows _ _,EqI.mk rfl (EqI.mk rfl (EqB.mk rfl (EqB.mk rfl (EqI.mk rfl (EqN.mk rfl ⟨qRows _ _,EqI.mk h (EqI.mk rfl z)⟩)))))⟩⟩
  refine Cond.mkP (fun hlt=>?_) fun hge=>same (by omega) trivial
  have c:=condsB_ok h (j:=i.toNat) (by omega)
  refine Asks.mk' _ _ (by simp only [Bool.and_eq_true,decide_eq_true_eq];omega) ?_
  refine Cond.mkP (fun _=>notB c.1.2 (Cond.mkP (fun _=>notB c.2.1.2 (Cond.mkP (fun _=>notB c.2.2.2 (Asks.mk' _ _ (inR_small (by omega) (by omega)) (same rfl ⟨⟨by omega,by omega⟩,by omega,rfl⟩))) fun h=>absurd c.2.2.1 h)) fun h=>absurd c.2.1.1 h)) fun h=>absurd c.1.1 h
theorem validb_loop (q:Query) (hn:q.ng≤3) (h:groupsB q=true): LoopAt PP II false (loopOf II 37 10001) 13 (s37b q 0) (e37b q q.ng):=
 LoopAt.of (ι:=Int) hII [] (lamT_ok PP II []) 1000 13 (fun i=>0≤i∧i≤q.ng) (s37b q) (fun _=>e37b q q.ng) (fun i=>(q.ng-i).toNat) (fun i=>i+1) 0 rfl ⟨Int.le_refl _,Int.natCast_nonneg _⟩ fun i hi=>by
  refine (validb_step q i q.ng _).mpr ?_
  have e:Int.ofNat q.ng=(q.ng:Int):=rfl
  have same : ∀ {x y:Int} {Z:Prop},x=y→Z→EqN (Query.nw q) (Query.nw q) (RowsLe (Query.nw q) (qRow (Query.C q)) (qRow (Query.C q))∧EqN (Query.ng q) (Query.ng q) (RowsLe (Query.ng q) (gRow (Query.G q)) (gRow (Query.G q))∧EqI (Query.a q) (Query.a q) (EqI (Query.fl q) (Query.fl q) (EqB (Query.nu q) (Query.nu q) (EqB (Query.de q) (Query.de q) (EqI (Query.top q) (Query.top q)
    (EqN (Query.ng q) (Query.ng q) (RowsLe (Query.ng q) (gRow (Query.G q)) (gRow (Query.G q))∧EqI x y (EqI (Int.ofNat (Query.ng q)) (Int.ofNat (Query.ng q)) Z))))))))):=fun h z=>
   EqN.mk rfl ⟨qRows _ _,EqN.mk rfl ⟨gRows _ _,EqI.mk rfl (EqI.mk rfl (EqB.mk rfl (EqB.mk rfl (EqI.mk rfl (EqN.mk rfl ⟨gRows _ _,EqI.mk h (EqI.mk rfl z)⟩)))))⟩⟩
  refine Cond.mkP (fun hlt=>?_) fun hge=>same (by omega) trivial
  have c:=groupsB_ok h (j:=i.toNat) (by omega)
  have hi1:inR .i64 (i+1)=true:=inR_small (by omega) (by omega)
  have fin:(0≤i+1∧i+1≤(q.ng:Int))∧((q.ng:Int)-(i+1)).toNat<((q.ng:Int)-i).toNat∧(e37b q q.ng).pick=(e37b q q.ng).pick:=⟨⟨by omega,by omega⟩,by omega,rfl⟩
  refine Asks.mk' _ _ (by simp only [Bool.and_eq_true,decide_eq_true_eq];omega) ?_
  refine Cond.mkP (fun _=>notB c.1.2 (Cond.mkP (fun h0=>Asks.mk' _ _ (inR_small (by omega) (by omega)) (Asks.mk' _ _ (by simp only [Bool.and_eq_true,decide_eq_true_eq];omega) (Cond.mkP (fun hle=>?_) fun _=>Asks.mk' _ _ hi1 (same rfl fin)))) fun h0=>Asks.mk' _ _ hi1 (same rfl fin))) fun h=>absurd c.1.1 h
  have e2:(i-1).toNat=i.toNat-1:=by omega
  rw [e2] at hle
  rcases c.2 with h | h
  ·omega
  ·omega
theorem valid37_ok (q:Query) (h:qok q=true): CallGives PP II 37 [.agg (queryAV q)] (AH.blank 12) (.ret (.bool true) (AH.blank 12)):=by
 simp only [qok,Bool.and_eq_true,decide_eq_true_eq] at h
 obtain ⟨⟨⟨⟨⟨h1,h2⟩,h3⟩,h4⟩,h5⟩,h6⟩:=h
 have la:=valida_loop q h1 h3
 have lb:=validb_loop q h2 h4
 refine of_kb (ks:=[kPart]) (T:=[(4001,13,s37a q 0,e37a q q.nw),(10001,13,s37b q 0,e37b q q.ng)]) (fun _=>rfl) ?_
 rw [valid37_vc]
 simp only [topB,Bool.and_eq_true,Bool.or_eq_true,decide_eq_true_eq,Nat.blt_eq] at h5
 simp only [aggB,Bool.and_eq_true,Bool.or_eq_true,decide_eq_true_eq] at h6
 have chA : ∀ {Z:Prop},Z→EqN q.nw q.nw (RowsLe q.nw (qRow q.C) (qRow q.C)∧EqN q.ng q.ng (RowsLe q.ng (gRow q.G) (gRow q.G)∧EqI q.a q.a (EqI q.fl q.fl (EqB q.nu q.nu (EqB q.de q.de (EqI q.top q.top (EqN q.nw q.nw (RowsLe q.nw (qRow q.C) (qRow q.C)∧EqI (Int.ofNat q.nw) (Int.ofNat q.nw) Z)))))))):=fun z=>
  EqN.mk rfl ⟨qRows _ _,EqN.mk rfl ⟨gRows _ _,EqI.mk rfl (EqI.mk rfl (EqB.mk rfl (EqB.mk rfl (EqI.mk rfl (EqN.mk rfl ⟨qRows _ _,EqI.mk rfl z⟩)))))⟩⟩
 have chB : ∀ {Z:Prop},Z→EqN q.nw q.nw (RowsLe q.nw (qRow q.C) (qRow q.C)∧EqN q.ng q.ng (RowsLe q.ng (gRow q.G) (gRow q.G)∧EqI q.a q.a (EqI q.fl q.fl (EqB q.nu q.nu (EqB q.de q.de (EqI q.top q.top (EqN q.ng q.ng (RowsLe q.ng (gRow q.G) (gRow q.G)∧EqI (Int.ofNat q.ng) (Int.ofNat q.ng) Z)))))))):=fun z=>
  EqN.mk rfl ⟨qRows _ _,EqN.mk rfl ⟨gRows _ _,EqI.mk rfl (EqI.mk rfl (EqB.mk rfl (EqB.mk rfl (EqI.mk rfl (EqN.mk rfl ⟨gRows _ _,EqI.mk rfl z⟩)))))⟩⟩
 have en:Int.ofNat q.nw=(q.nw:Int):=rfl
 have eg:Int.ofNat q.ng=(q.ng:Int):=rfl
 have hR:Cond (decide (q.a=1)) (Cond (decide (q.fl=0)) (AV.bool (List.beq q.nu []&&(List.beq q.de []&&true))=AV.bool true) (AV.bool false=AV.bool true)) (Cond (decide (q.a=5)) (Cond (decide (q.fl≥7)) (Cond (decide (q.fl≤8)) (Asks (isTen q.nu q.de) (AV.bool true=AV.bool true)) (AV.bool false=AV.bool true)) (AV.bool false=AV.bool true)) (Cond (decide (q.a≥2)) (Cond (decide (q.a≤4)) (Cond (decide (q.fl≥7)) (Cond (decide (q.fl≤8)) (AV.bool (List.beq q.nu []&&(List.beq q.de []&&true))=AV.bool true) (AV.bool false=AV.bool true)) (AV.bool false=AV.bool true)) (AV.bool false=AV.bool true)) (AV.bool false=AV.bool true))):=by
  rcases h6 with (⟨⟨⟨g1,g2⟩,g3⟩,g4⟩ | ⟨⟨g1,g2⟩,g3⟩) | ⟨⟨⟨⟨g1,g2⟩,g3⟩,g4⟩,g5⟩
  ·exact Cond.mkP (fun _=>Cond.mkP (fun _=>by rw [g3,g4];rfl) fun h=>absurd g2 h) fun h=>absurd g1 h
  ·exact Cond.mkP (fun h=>by omega) fun _=>Cond.mkP (fun _=>Cond.mkP (fun _=>Cond.mkP (fun _=>Asks.mk' _ _ g3 rfl) fun h=>by omega) fun h=>by omega) fun h=>absurd g1 h
  ·exact Cond.mkP (fun h=>by omega) fun _=>Cond.mkP (fun h=>by omega) fun _=>Cond.mkP (fun _=>Cond.mkP (fun _=>Cond.mkP (fun _=>Cond.mkP (fun _=>by rw [g4,g5];rfl) fun h=>by omega) fun h=>by omega) fun h=>by omega) fun h=>by omega
 have fin:=And.intro la (chA (And.intro lb (chB hR)))
 repeat' (first
  | exact fin
  | refine Cond.mkP (fun h=>?_) fun h=>?_
  | exact notB (by omega) ?_
  | refine Cond.mk (fun h=>?_) fun h=>?_
  | (exfalso;simp at h;omega)
  | omega)
end Go.Sx
end
section
set_option maxRecDepth 1000000
namespace Go.Sx
open Go
theorem intRow1 {cs:List AV} (h:intRow 1 cs=true): cs=[.int .i64 (getI cs 0)]:=by
 obtain ⟨h1,h2⟩:=intRow_ok 1 cs h
 obtain ⟨a0,b0⟩:=h2 0 (by omega)
 match cs,h1 with
 | [x],_=>
  simp only [List.getElem?_cons_zero,Option.some.injEq] at a0
  rw [←a0]
theorem query_args {nw ng:Nat} {f g:Nat→List AV} {a fl top:Int} {nu de:List UInt8} (h1:intsRows 3 nw f=true) (h2:intsRows 1 ng g=true):
  AVs.le (fun l=>l) [.fslice nw 3 f,.fslice ng 1 g,.int .i64 a,.int .i64 fl,.str nu,.str de,.int .i64 top] (queryAV ⟨nw,rowsX f,ng,fun j=>getI (g j) 0,a,fl,nu,de,top⟩):=by
 refine ⟨⟨rfl,rfl,fun i hi=>?_⟩,⟨rfl,rfl,fun i hi=>?_⟩,⟨rfl,rfl⟩,⟨rfl,rfl⟩,rfl,rfl,⟨rfl,rfl⟩,trivial⟩
 ·rw [(intRow3 (intsRows_ok h1 hi)).1];exact qRow_le (rowsX f) _ i
 ·rw [intRow1 (intsRows_ok h2 hi)];exact gRow_le (fun j=>getI (g j) 0) _ i
noncomputable def kValidQ:Known PP II:=Known.pure 37
 (fun X args kn=>match args with
  | [.agg [.fslice nw 3 f,.fslice ng 1 g,.int .i64 a,.int .i64 fl,.str nu,.str de,.int .i64 top]]=>X.assert (intsRows 3 nw f&&intsRows 1 ng g) (X.assert (qok ⟨nw,rowsX f,ng,fun j=>getI (g j) 0,a,fl,nu,de,top⟩) (kn (.bool true)))
  | _=>X.fail)
 fun X sem hX args kn h=>by
  split at h
  ·obtain ⟨h1,h2⟩:=hX.assert _ _ h
   obtain ⟨h3,h4⟩:=hX.assert _ _ h2
   rw [Bool.and_eq_true] at h1
   exact ⟨_,h4,fun _=>rfl,fun _=>rfl,(valid37_ok _ h3).argsLe ⟨query_args h1.1 h1.2,trivial⟩⟩
  ·exact absurd h hX.fail
theorem isq_vc (q:Query) (Q:AV→Prop): (kb [kValidQ] [] 32 [.agg (queryAV q)] Q)=(Asks (intsRows 3 q.nw (qRow q.C)&&intsRows 1 q.ng (gRow q.G)) (Asks (qok {nw:=q.nw,C:=rowsX (qRow q.C),ng:=q.ng,G:=fun j=>q.G j,a:=q.a,fl:=q.fl,nu:=q.nu,de:=q.de,top:=q.top}) (Cond (decide (q.fl=0)) (Q (AV.bool true)) (Cond (decide (q.fl=7)) (Q (AV.bool true)) (Cond (decide (q.fl=8)) (Q (AV.bool true)) (Q (AV.bool true))))))):=by kernel_rfl
theorem qok_back (q:Query): qok ⟨q.nw,rowsX (qRow q.C),q.ng,fun j=>q.G j,q.a,q.fl,q.nu,q.de,q.top⟩=qok q:=rfl
theorem isq_ok {q:Query} (h1:intsRows 3 q.nw (qRow q.C)=true) (h2:intsRows 1 q.ng (gRow q.G)=true) (h3:qok q=true): CallGives PP II 32 [.agg (queryAV q)] (AH.blank 12) (.ret (.bool true) (AH.blank 12)):=by
 refine of_kb (ks:=[kValidQ]) (T:=[]) (fun _=>rfl) ?_
 rw [isq_vc]
 refine Asks.mk' _ _ (by rw [h1,h2];rfl) (Asks.mk' _ _ ((qok_back q).trans h3) ?_)
 exact Cond.mk (fun _=>rfl) fun _=>Cond.mk (fun _=>rfl) fun _=>Cond.mk (fun _=>rfl) fun _=>rfl
theorem gRow_ints {n:Nat} {f:Nat→List AV} (h:intsRows 1 n f=true): intsRows 1 n (gRow fun j=>getI (f j) 0)=true:=by
 refine List.all_eq_true.2 fun j hj=>?_
 have:=intsRows_ok h (List.mem_range.1 hj)
 rw [intRow1 this] at this
 exact this
noncomputable def kIsQ:Known PP II:=Known.pure 32
 (fun X args kn=>match args with
  | [.agg [.fslice nw 3 f,.fslice ng 1 g,.int .i64 a,.int .i64 fl,.str nu,.str de,.int .i64 top]]=>X.assert (intsRows 3 nw f&&intsRows 1 ng g) (X.assert (qok ⟨nw,rowsX f,ng,fun j=>getI (g j) 0,a,fl,nu,de,top⟩) (kn (.bool true)))
  | _=>X.fail)
 fun X sem hX args kn h=>by
  split at h
  ·obtain ⟨h1,h2⟩:=hX.assert _ _ h
   obtain ⟨h3,h4⟩:=hX.assert _ _ h2
   rw [Bool.and_eq_true] at h1
   exact ⟨_,h4,fun _=>rfl,fun _=>rfl,(isq_ok (q:=⟨_,rowsX _,_,fun j=>getI _ 0,_,_,_,_,_⟩) (qRow_ints h1.1) (gRow_ints h1.2) h3).argsLe ⟨query_args h1.1 h1.2,trivial⟩⟩
  ·exact absurd h hX.fail
end Go.Sx
end
section
set_option maxRecDepth 1000000
namespace Go.Sx
open Go
def coverC (lo hi:Nat→Int): List AV:=[.int .i64 (lo 0),.int .i64 (lo 1),.int .i64 (lo 2),.int .i64 (lo 3),.int .i64 (lo 4),.int .i64 (lo 5),.int .i64 (lo 6),.int .i64 (lo 7),.int .i64 (hi 0),.int .i64 (hi 1),.int .i64 (hi 2),.int .i64 (hi 3),.int .i64 (hi 4),.int .i64 (hi 5),.int .i64 (hi 6),.int .i64 (hi 7)]
noncomputable def s34 (q:Query) (lo hi:Nat→Int) (i:Int): St:={t:=Tr.ofList [(2,.ptr 12 0 0 0),(3,.ptr 13 0 0 0),(11,.fslice q.nw 3 (qRow q.C)),(12,.int .i64 q.nw),(13,.int .i64 i)],nt:=80,H:={n:=14,t:=Tr.ofList [(12,.cells (queryAV q) (.ty 34)),(13,.cells (coverC lo hi) (.ty 46))]},df:=[]}
noncomputable def e34 (b:Bool): GE:=.cond b (.one (.r {t:=Tr.ofList [(4,.bool true)],nt:=80,H:=AH.blank 14,df:=[]})) (.one (.x 0 {t:=.e,nt:=80,H:=AH.blank 14,df:=[]}))
theorem excl_step (q : Query) (lo hi : Nat → Int) (b : Bool) (i : Int) (Q : Prop) : (kr [] [] 34 2001 14 (s34 q lo hi) (fun _ => e34 b) (fun i => i + 1) Q i) = (let zz1 := (Asks (inR .i64 (i + 1)) (EqI (lo 0) (lo 0) (EqI (lo 1) (lo 1) (EqI (lo 2) (lo 2) (EqI (lo 3) (lo 3) (EqI (lo 4) (lo 4) (EqI (lo 5) (lo 5) (EqI (lo 6) (lo 6) (EqI (lo 7) (lo 7) (EqI (hi 0) (hi 0) (EqI (hi 1) (hi 1) (EqI (hi 2) (hi 2) (EqI (hi 3) (hi 3) (EqI (hi 4) (hi 4) (EqI (hi 5) (hi 5) (EqI (hi 6) (hi 6) (EqI (hi 7) (hi 7) (EqN q.nw q.nw (RowsLe q.nw (qRow q.C) (qRow q.C) ∧ EqN q.ng q.ng (RowsLe q.ng (gRow q.G) (gRow q.G) ∧ EqI q.a q.a (EqI q.fl q.fl (EqB q.nu q.nu (EqB q.de q.de (EqI q.top q.top (EqN q.nw q.nw (RowsLe q.nw (qRow q.C) (qRow q.C) ∧ EqI (i + 1) (i + 1) (EqI (Int.ofNat q.nw) (Int.ofNat q.nw) Q))))))))))))))))))))))))))); let zz2 := (decide (int64At (coverC lo hi) (Int.toNat (q.C (Int.toNat i) 0 - 1) *
 1 + 0) ≤ int64At (coverC lo hi) (Int.toNat (q.C (Int.toNat i) 0 - 1) * 1 + 8))); let zz3 := (Cond (decide (q.C (Int.toNat i) 1 = 4)) (Cond (!decide (int64At (coverC lo hi) (Int.toNat (q.C (Int.toNat i) 0 - 1) * 1 + 8) ≥ q.C (Int.toNat i) 2)) (Cond b (true = true ∧ True) False) zz1) (Cond b (true = true ∧ True) False)); let zz4 := (Cond (!decide (q.C (Int.toNat i) 2 ≤ int64At (coverC lo hi) (Int.toNat (q.C (Int.toNat i) 0 - 1) * 1 + 8))) (Cond b (true = true ∧ True) False) zz1); let zz5 := (Cond (!decide (int64At (coverC lo hi) (Int.toNat (q.C (Int.toNat i) 0 - 1) * 1 + 0) < q.C (Int.toNat i) 2)) (Cond b (true = true ∧ True) False) zz1); let zz6 := (Cond (decide (q.C (Int.toNat i) 1 = 4)) (Cond b (true = true ∧ True) False) (Cond b (true = true ∧ True) False)); let zz7 := (Cond (!!decide (int64At (coverC lo hi) (Int.toNat (q.C (Int.toNat i) 0 - 1) * 1 + 8) = q.C (Int.toNat i) 2)) (Cond b
 (true = true ∧ True) False) zz1); (Cond (decide (i < Int.ofNat q.nw)) (Asks (decide (0 ≤ i) && decide (i < Int.ofNat q.nw)) (Asks (inR .i64 (q.C (Int.toNat i) 0 - 1)) (Asks (decide (0 ≤ q.C (Int.toNat i) 0 - 1) && decide (q.C (Int.toNat i) 0 - 1 < 8)) (Asks (decide (Int.toNat (q.C (Int.toNat i) 0 - 1) * 1 + 0 < 16)) (Asks (inR .i64 (q.C (Int.toNat i) 0 - 1)) (Asks (decide (0 ≤ q.C (Int.toNat i) 0 - 1) && decide (q.C (Int.toNat i) 0 - 1 < 8)) (Asks (decide (Int.toNat (q.C (Int.toNat i) 0 - 1) * 1 + 8 < 16)) (Cond (decide (int64At (coverC lo hi) (Int.toNat (q.C (Int.toNat i) 0 - 1) * 1 + 0) ≤ q.C (Int.toNat i) 2)) (Cond zz2 (Cond (!decide (int64At (coverC lo hi) (Int.toNat (q.C (Int.toNat i) 0 - 1) * 1 + 0) = q.C (Int.toNat i) 2)) (Cond zz2 (Cond zz2 (Cond (decide (q.C (Int.toNat i) 1 = 1)) zz4 (Cond (decide (q.C (Int.toNat i) 1 = 2)) zz1 (Cond (decide (q.C (Int.toNat i) 1 = 3)) zz5 zz3)))
 (Cond (decide (q.C (Int.toNat i) 1 = 1)) zz4 (Cond (decide (q.C (Int.toNat i) 1 = 2)) zz1 (Cond (decide (q.C (Int.toNat i) 1 = 3)) zz5 zz6)))) (Cond zz2 (Cond (decide (q.C (Int.toNat i) 1 = 1)) zz4 (Cond (decide (q.C (Int.toNat i) 1 = 2)) zz1 (Cond (decide (q.C (Int.toNat i) 1 = 3)) (Cond b (true = true ∧ True) False) zz3))) (Cond (decide (q.C (Int.toNat i) 1 = 1)) zz4 (Cond (decide (q.C (Int.toNat i) 1 = 2)) zz1 (Cond (decide (q.C (Int.toNat i) 1 = 3)) (Cond b (true = true ∧ True) False) zz6))))) (Cond zz2 (Cond zz2 (Cond (decide (q.C (Int.toNat i) 1 = 1)) zz4 (Cond (decide (q.C (Int.toNat i) 1 = 2)) zz7 (Cond (decide (q.C (Int.toNat i) 1 = 3)) zz5 zz3))) (Cond (decide (q.C (Int.toNat i) 1 = 1)) zz4 (Cond (decide (q.C (Int.toNat i) 1 = 2)) zz7 (Cond (decide (q.C (Int.toNat i) 1 = 3)) zz5 zz6)))) (Cond zz2 (Cond (decide (q.C (Int.toNat i) 1 = 1)) zz4 (Cond (decide (q.C (Int.toNat i) 1 =
 2)) zz7 (Cond (decide (q.C (Int.toNat i) 1 = 3)) (Cond b (true = true ∧ True) False) zz3))) (Cond (decide (q.C (Int.toNat i) 1 = 1)) zz4 (Cond (decide (q.C (Int.toNat i) 1 = 2)) zz7 (Cond (decide (q.C (Int.toNat i) 1 = 3)) (Cond b (true = true ∧ True) False) zz6)))))) (Cond zz2 (Cond zz2 (Cond (decide (q.C (Int.toNat i) 1 = 1)) zz4 (Cond (decide (q.C (Int.toNat i) 1 = 2)) (Cond b (true = true ∧ True) False) (Cond (decide (q.C (Int.toNat i) 1 = 3)) zz5 zz3))) (Cond (decide (q.C (Int.toNat i) 1 = 1)) zz4 (Cond (decide (q.C (Int.toNat i) 1 = 2)) (Cond b (true = true ∧ True) False) (Cond (decide (q.C (Int.toNat i) 1 = 3)) zz5 zz6)))) (Cond zz2 (Cond (decide (q.C (Int.toNat i) 1 = 1)) zz4 (Cond (decide (q.C (Int.toNat i) 1 = 2)) (Cond b (true = true ∧ True) False) (Cond (decide (q.C (Int.toNat i) 1 = 3)) (Cond b (true = true ∧ True) False) zz3))) (Cond (decide (q.C (Int.toNat i) 1 = 1)) zz4
 (Cond (decide (q.C (Int.toNat i) 1 = 2)) (Cond b (true = true ∧ True) False) (Cond (decide (q.C (Int.toNat i) 1 = 3)) (Cond b (true = true ∧ True) False) zz6)))))) (Cond zz2 (Cond (!decide (int64At (coverC lo hi) (Int.toNat (q.C (Int.toNat i) 0 - 1) * 1 + 0) = q.C (Int.toNat i) 2)) (Cond zz2 (Cond zz2 (Cond (decide (q.C (Int.toNat i) 1 = 1)) (Cond b (true = true ∧ True) False) (Cond (decide (q.C (Int.toNat i) 1 = 2)) zz1 (Cond (decide (q.C (Int.toNat i) 1 = 3)) zz5 zz3))) (Cond (decide (q.C (Int.toNat i) 1 = 1)) (Cond b (true = true ∧ True) False) (Cond (decide (q.C (Int.toNat i) 1 = 2)) zz1 (Cond (decide (q.C (Int.toNat i) 1 = 3)) zz5 zz6)))) (Cond zz2 (Cond (decide (q.C (Int.toNat i) 1 = 1)) (Cond b (true = true ∧ True) False) (Cond (decide (q.C (Int.toNat i) 1 = 2)) zz1 (Cond (decide (q.C (Int.toNat i) 1 = 3)) (Cond b (true = true ∧ True) False) zz3))) (Cond (decide (q.C (Int.toNat i)
 1 = 1)) (Cond b (true = true ∧ True) False) (Cond (decide (q.C (Int.toNat i) 1 = 2)) zz1 (Cond (decide (q.C (Int.toNat i) 1 = 3)) (Cond b (true = true ∧ True) False) zz6))))) (Cond zz2 (Cond zz2 (Cond (decide (q.C (Int.toNat i) 1 = 1)) (Cond b (true = true ∧ True) False) (Cond (decide (q.C (Int.toNat i) 1 = 2)) zz7 (Cond (decide (q.C (Int.toNat i) 1 = 3)) zz5 zz3))) (Cond (decide (q.C (Int.toNat i) 1 = 1)) (Cond b (true = true ∧ True) False) (Cond (decide (q.C (Int.toNat i) 1 = 2)) zz7 (Cond (decide (q.C (Int.toNat i) 1 = 3)) zz5 zz6)))) (Cond zz2 (Cond (decide (q.C (Int.toNat i) 1 = 1)) (Cond b (true = true ∧ True) False) (Cond (decide (q.C (Int.toNat i) 1 = 2)) zz7 (Cond (decide (q.C (Int.toNat i) 1 = 3)) (Cond b (true = true ∧ True) False) zz3))) (Cond (decide (q.C (Int.toNat i) 1 = 1)) (Cond b (true = true ∧ True) False) (Cond (decide (q.C (Int.toNat i) 1 = 2)) zz7 (Cond (decide (q.C
 (Int.toNat i) 1 = 3)) (Cond b (true = true ∧ True) False) zz6)))))) (Cond zz2 (Cond zz2 (Cond (decide (q.C (Int.toNat i) 1 = 1)) (Cond b (true = true ∧ True) False) (Cond (decide (q.C (Int.toNat i) 1 = 2)) (Cond b (true = true ∧ True) False) (Cond (decide (q.C (Int.toNat i) 1 = 3)) zz5 zz3))) (Cond (decide (q.C (Int.toNat i) 1 = 1)) (Cond b (true = true ∧ True) False) (Cond (decide (q.C (Int.toNat i) 1 = 2)) (Cond b (true = true ∧ True) False) (Cond (decide (q.C (Int.toNat i) 1 = 3)) zz5 zz6)))) (Cond zz2 (Cond (decide (q.C (Int.toNat i) 1 = 1)) (Cond b (true = true ∧ True) False) (Cond (decide (q.C (Int.toNat i) 1 = 2)) (Cond b (true = true ∧ True) False) (Cond (decide (q.C (Int.toNat i) 1 = 3)) (Cond b (true = true ∧ True) False) zz3))) (Cond (decide (q.C (Int.toNat i) 1 = 1)) (Cond b (true = true ∧ True) False) (Cond (decide (q.C (Int.toNat i) 1 = 2)) (Cond b (true = true ∧ True)
 False) (Cond (decide (q.C (Int.toNat i) 1 = 3)) (Cond b (true = true ∧ True) False) zz6)))))))))))))) (Cond b False True))) := by kernel_rfl
theorem excl_vc (q : Query) (lo hi : Nat → Int) (b : Bool) (Q : AV → Prop) : (kb [] [(2001, 14, s34 q lo hi 0, e34 b)] 34 [.agg (queryAV q), .agg (coverC lo hi)] Q) = (LoopAt PP II false (loopOf II 34 2001) 14 { t := .n (.n (.n .e (some (AV.ptr 13 0 0 0)) (.n .e (some (AV.fslice q.nw 3 (qRow q.C))) .e)) none (.n .e none (.n .e (some (AV.int .i64 0)) .e))) none (.n (.n .e none (.n .e (some (AV.int .i64 (Int.ofNat q.nw))) .e)) (some (AV.ptr 12 0 0 0)) .e), nt := 80, H := { n := 14, t := .n (.n .e none (.n .e none (.n .e (some (ABlk.cells (coverC lo hi) (Access.ty 46))) .e))) none (.n (.n .e none (.n .e (some (ABlk.cells (queryAV q) (Access.ty 34))) .e)) none .e) }, df := [] } (GE.cond b (GE.one (AExit.r { t := .n .e none (.n (.n .e (some (AV.bool true)) .e) none .e), nt := 80, H := { n := 14, t := .e }, df := [] })) (GE.one (AExit.x 0 { t := .e, nt := 80, H := { n := 14, t := .e }, df := [] })))
 ∧ EqI (lo 0) (lo 0) (EqI (lo 1) (lo 1) (EqI (lo 2) (lo 2) (EqI (lo 3) (lo 3) (EqI (lo 4) (lo 4) (EqI (lo 5) (lo 5) (EqI (lo 6) (lo 6) (EqI (lo 7) (lo 7) (EqI (hi 0) (hi 0) (EqI (hi 1) (hi 1) (EqI (hi 2) (hi 2) (EqI (hi 3) (hi 3) (EqI (hi 4) (hi 4) (EqI (hi 5) (hi 5) (EqI (hi 6) (hi 6) (EqI (hi 7) (hi 7) (EqN q.nw q.nw (RowsLe q.nw (qRow q.C) (qRow q.C) ∧ EqN q.ng q.ng (RowsLe q.ng (gRow q.G) (gRow q.G) ∧ EqI q.a q.a (EqI q.fl q.fl (EqB q.nu q.nu (EqB q.de q.de (EqI q.top q.top (EqN q.nw q.nw (RowsLe q.nw (qRow q.C) (qRow q.C) ∧ EqI (Int.ofNat q.nw) (Int.ofNat q.nw) (Cond b (Q (AV.bool true)) (Q (AV.bool false)))))))))))))))))))))))))))) := by kernel_rfl
end Go.Sx
end
