/- CertifyOpens is proved, part 21. -/
import Derived.Test.YtleifmkjbmhlpaaGreatDoorX18
import Derived.Test.YtleifmkjbmhlpaaGreatDoorX20
set_option linter.unusedVariables false
set_option linter.unusedSimpArgs false
set_option linter.unusedSectionVars false
section
set_option maxRecDepth 1000000
namespace Go.Sx
open Go
structure Query where
 (nw:Nat) (C:Nat→Nat→Int) (ng:Nat) (G:Nat→Int) (a fl:Int) (nu de:List UInt8) (top:Int)
def gRow (G:Nat→Int) (j:Nat): List AV:=[.int .i64 (G j)]
def queryAV (q:Query): List AV:=[.fslice q.nw 3 (qRow q.C),.fslice q.ng 1 (gRow q.G),.int .i64 q.a,.int .i64 q.fl,.str q.nu,.str q.de,.int .i64 q.top]
def zeroQ:List AV:=[.nilSlice,.nilSlice,.int .i64 0,.int .i64 0,.str [],.str [],.int .i64 0]
noncomputable def s30 (n0:Nat) (nw:Nat) (C:Nat→Nat→Int) (a fl:Int) (nu de:List UInt8) (g top:Int) (f:Int) (m:Nat) (G:Nat→Int): St :=
 {t:=Tr.ofList [(2,.int .i64 g),(3,.int .i64 top),(8,.ptr 12 0 0 0),(9,.ptr 13 0 0 0),(12,.int .i64 f)],nt:=72,H:={n:=n0+1,t:=Tr.ofList [(12,.cells zeroQ (.ty 34)),(13,.cells [.fslice nw 3 (qRow C),.own n0 m 1,.int .i64 a,.int .i64 fl,.str nu,.str de,.int .i64 0] (.ty 34)),(n0,.rows m 1 (gRow G) (.ty 3))]},df:=[]}
noncomputable def e30 (n0:Nat) (nw:Nat) (C:Nat→Nat→Int) (a fl:Int) (nu de:List UInt8) (g top:Int) (f:Int) (m:Nat) (G:Nat→Int): GE:=.one (.x 0 (s30 n0 nw C a fl nu de g top f m G))
structure Grp where
 (f:Int) (m:Nat) (G:Nat→Int)
theorem group_step (nw : Nat) (C : Nat → Nat → Int) (a fl : Int) (nu de : List UInt8) (g top : Int) (f : Int) (m : Nat) (G : Nat → Int) (f' : Int) (m' : Nat) (G' : Nat → Int) (fN : Int) (mN : Nat) (GN : Nat → Int) (Q : Prop) : (kr [kPick67] [] 30 9002 14 (fun p : Grp => s30 14 nw C a fl nu de g top p.f p.m p.G) (fun _ => e30 14 nw C a fl nu de g top fN mN GN) (fun _ => ⟨f', m', G'⟩) Q ⟨f, m, G⟩) = (Cond (decide (f ≤ 6)) (Asks (inR .i64 g && true) (Asks (inR .i64 (f - 1)) (Asks (decide (0 ≤ f - 1)) (Cond (decide (Int.tmod (Int.fdiv (pickF g 64) (Int.pow 2 (if Int.toNat (f - 1) ≤ 64 then Int.toNat (f - 1) else 64))) 2 = 1)) (Cond (decide (Int.ofNat m < 3)) (Asks (decide (m ≤ m) && true && true && decide ((m + 1) * 8 ≤ 140737488355328) && true) (Asks (inR .i64 (f + 1)) (EqN (m + 1) m' (RowsLe (m + 1) (fun i => bif Nat.blt i m then gRow G i else List.take 1 (List.drop (0 + (i - m) * 1)
 [AV.int .i64 f])) (gRow G') ∧ EqN nw nw (RowsLe nw (qRow C) (qRow C) ∧ EqN (m + 1) m' (EqI a a (EqI fl fl (EqB nu nu (EqB de de (EqB [] [] (EqB [] [] (EqI top top (EqI (f + 1) f' (EqI g g Q)))))))))))))) (Asks (inR .i64 (f + 1)) (EqN m m' (RowsLe m (gRow G) (gRow G') ∧ EqN nw nw (RowsLe nw (qRow C) (qRow C) ∧ EqN m m' (EqI a a (EqI fl fl (EqB nu nu (EqB de de (EqB [] [] (EqB [] [] (EqI top top (EqI (f + 1) f' (EqI g g Q)))))))))))))) (Asks (inR .i64 (f + 1)) (EqN m m' (RowsLe m (gRow G) (gRow G') ∧ EqN nw nw (RowsLe nw (qRow C) (qRow C) ∧ EqN m m' (EqI a a (EqI fl fl (EqB nu nu (EqB de de (EqB [] [] (EqB [] [] (EqI top top (EqI (f + 1) f' (EqI g g Q))))))))))))))))) (EqN m mN (RowsLe m (gRow G) (gRow GN) ∧ EqN nw nw (RowsLe nw (qRow C) (qRow C) ∧ EqN m mN (EqI a a (EqI fl fl (EqB nu nu (EqB de de (EqB [] [] (EqB [] [] (EqI top top (EqI f fN (EqI g g True))))))))))))) := by kernel_rfl
theorem group_step5 (nw : Nat) (C : Nat → Nat → Int) (a fl : Int) (nu de : List UInt8) (g top : Int) (f : Int) (m : Nat) (G : Nat → Int) (f' : Int) (m' : Nat) (G' : Nat → Int) (fN : Int) (mN : Nat) (GN : Nat → Int) (Q : Prop) : (kr [kPick67] [] 30 9002 15 (fun p : Grp => s30 15 nw C a fl nu de g top p.f p.m p.G) (fun _ => e30 15 nw C a fl nu de g top fN mN GN) (fun _ => ⟨f', m', G'⟩) Q ⟨f, m, G⟩) = (Cond (decide (f ≤ 6)) (Asks (inR .i64 g && true) (Asks (inR .i64 (f - 1)) (Asks (decide (0 ≤ f - 1)) (Cond (decide (Int.tmod (Int.fdiv (pickF g 64) (Int.pow 2 (if Int.toNat (f - 1) ≤ 64 then Int.toNat (f - 1) else 64))) 2 = 1)) (Cond (decide (Int.ofNat m < 3)) (Asks (decide (m ≤ m) && true && true && decide ((m + 1) * 8 ≤ 140737488355328) && true) (Asks (inR .i64 (f + 1)) (EqN (m + 1) m' (RowsLe (m + 1) (fun i => bif Nat.blt i m then gRow G i else List.take 1 (List.drop (0 + (i - m) * 1)
 [AV.int .i64 f])) (gRow G') ∧ EqN nw nw (RowsLe nw (qRow C) (qRow C) ∧ EqN (m + 1) m' (EqI a a (EqI fl fl (EqB nu nu (EqB de de (EqB [] [] (EqB [] [] (EqI top top (EqI (f + 1) f' (EqI g g Q)))))))))))))) (Asks (inR .i64 (f + 1)) (EqN m m' (RowsLe m (gRow G) (gRow G') ∧ EqN nw nw (RowsLe nw (qRow C) (qRow C) ∧ EqN m m' (EqI a a (EqI fl fl (EqB nu nu (EqB de de (EqB [] [] (EqB [] [] (EqI top top (EqI (f + 1) f' (EqI g g Q)))))))))))))) (Asks (inR .i64 (f + 1)) (EqN m m' (RowsLe m (gRow G) (gRow G') ∧ EqN nw nw (RowsLe nw (qRow C) (qRow C) ∧ EqN m m' (EqI a a (EqI fl fl (EqB nu nu (EqB de de (EqB [] [] (EqB [] [] (EqI top top (EqI (f + 1) f' (EqI g g Q))))))))))))))))) (EqN m mN (RowsLe m (gRow G) (gRow GN) ∧ EqN nw nw (RowsLe nw (qRow C) (qRow C) ∧ EqN m mN (EqI a a (EqI fl fl (EqB nu nu (EqB de de (EqB [] [] (EqB [] [] (EqI top top (EqI f fN (EqI g g True))))))))))))) := by kernel_rfl
theorem query_vc (n : Nat) (X C : Nat → Nat → Int) (nw : Nat) (agg g top a fl : Int) (mN : Nat) (G0 GN : Nat → Int) (Q : AV → Prop) : (kb [kConds, kPick67, kOf68] [(9002, 14, s30 14 nw C a fl [] [] g top 1 0 G0, e30 14 nw C a fl [] [] g top 7 mN GN)] 30 [.int .i64 agg, qAV n X, .int .i64 g, .int .i64 top] Q) = (let zz1 := (ABlk.cells [AV.nilSlice, AV.nilSlice, AV.int .i64 0, AV.int .i64 0, AV.str [], AV.str [], AV.int .i64 0] (Access.ty 34)); let zz2 := (EqB [] [] (EqB [] [] (EqB [] [] (EqB [] [] (EqI top top (EqI g g (Cond (decide (Int.ofNat mN > 0)) (Asks (inR .i64 top && true) (Asks ((List.all (List.range.loop mN []) fun i => true) && decide (mN ≤ mN)) (Q (AV.agg [AV.fslice nw 3 (qRow C), AV.fslice mN 1 (gRow GN), AV.int .i64 a, AV.int .i64 fl, AV.str [], AV.str [], AV.int .i64 (pickF top 5)])))) (Asks ((List.all (List.range.loop mN []) fun i => true) && decide (mN ≤ mN)) (Q (AV.agg
 [AV.fslice nw 3 (qRow C), AV.fslice mN 1 (gRow GN), AV.int .i64 a, AV.int .i64 fl, AV.str [], AV.str [], AV.int .i64 0])))))))))); let zz3 := (ABlk.cells [AV.fslice nw 3 (qRow C), AV.own 14 mN 1, AV.int .i64 a, AV.int .i64 fl, AV.str [], AV.str [], AV.int .i64 0] (Access.ty 34)); let zz4 := (ABlk.cells [AV.fslice nw 3 (qRow C), AV.own 14 0 1, AV.int .i64 a, AV.int .i64 fl, AV.str [], AV.str [], AV.int .i64 0] (Access.ty 34)); (Asks (intsRows 3 n (qRow X)) (Asks (inR .i64 agg && true) (Asks (inR .i64 (1 + pickF agg 5)) (Cond (decide (1 + pickF agg 5 > 1)) (Asks (inR .i64 (Int.tdiv agg 5)) (Asks (inR .i64 (Int.tdiv agg 5) && true) (Asks (inR .i64 (7 + pickF (Int.tdiv agg 5) 2)) (Cond (decide (1 + pickF agg 5 = 5)) (Asks (inR .i64 (Int.tdiv agg 10)) (Asks (inR .i64 (Int.tdiv agg 10) && true) (Asks (decide (0 ≤ pickF (Int.tdiv agg 10) 11) && decide (pickF (Int.tdiv agg 10) 11 ≤ 10) && true)
 (LoopAt PP II false (loopOf II 30 9002) 14 { t := .n (.n (.n .e (some (AV.int .i64 top)) .e) none (.n (.n .e (some (AV.ptr 13 0 0 0)) .e) none .e)) none (.n (.n (.n .e (some (AV.ptr 12 0 0 0)) .e) none (.n .e (some (AV.int .i64 1)) .e)) (some (AV.int .i64 g)) .e), nt := 72, H := { n := 15, t := .n (.n .e none (.n .e none (.n .e (some zz4) .e))) none (.n (.n .e none (.n .e (some zz1) .e)) none (.n .e none (.n .e (some (ABlk.rows 0 1 (gRow G0) (Access.ty 3))) .e))) }, df := [] } (GE.one (AExit.x 0 { t := .n (.n (.n .e (some (AV.int .i64 top)) .e) none (.n (.n .e (some (AV.ptr 13 0 0 0)) .e) none .e)) none (.n (.n (.n .e (some (AV.ptr 12 0 0 0)) .e) none (.n .e (some (AV.int .i64 7)) .e)) (some (AV.int .i64 g)) .e), nt := 72, H := { n := 15, t := .n (.n .e none (.n .e none (.n .e (some zz3) .e))) none (.n (.n .e none (.n .e (some zz1) .e)) none (.n .e none (.n .e (some (ABlk.rows mN 1 (gRow GN) (Access.ty 3))) .e))) }, df := [] }))
 ∧ False)))) (LoopAt PP II false (loopOf II 30 9002) 14 { t := .n (.n (.n .e (some (AV.int .i64 top)) .e) none (.n (.n .e (some (AV.ptr 13 0 0 0)) .e) none .e)) none (.n (.n (.n .e (some (AV.ptr 12 0 0 0)) .e) none (.n .e (some (AV.int .i64 1)) .e)) (some (AV.int .i64 g)) .e), nt := 72, H := { n := 15, t := .n (.n .e none (.n .e none (.n .e (some zz4) .e))) none (.n (.n .e none (.n .e (some zz1) .e)) none (.n .e none (.n .e (some (ABlk.rows 0 1 (gRow G0) (Access.ty 3))) .e))) }, df := [] } (GE.one (AExit.x 0 { t := .n (.n (.n .e (some (AV.int .i64 top)) .e) none (.n (.n .e (some (AV.ptr 13 0 0 0)) .e) none .e)) none (.n (.n (.n .e (some (AV.ptr 12 0 0 0)) .e) none (.n .e (some (AV.int .i64 7)) .e)) (some (AV.int .i64 g)) .e), nt := 72, H := { n := 15, t := .n (.n .e none (.n .e none (.n .e (some zz3) .e))) none (.n (.n .e none (.n .e (some zz1) .e)) none (.n .e none (.n .e (some (ABlk.rows mN 1 (gRow GN) (Access.ty 3))) .e))) }, df := [] }))
 ∧ EqN (min n 6) nw (RowsLe (min n 6) (qRow (condI (rowsX (qRow X)))) (qRow C) ∧ EqI (1 + pickF agg 5) a (EqI (7 + pickF (Int.tdiv agg 5) 2) fl zz2))))))) (Cond (decide (1 + pickF agg 5 = 5)) (Asks (inR .i64 (Int.tdiv agg 10)) (Asks (inR .i64 (Int.tdiv agg 10) && true) (Asks (decide (0 ≤ pickF (Int.tdiv agg 10) 11) && decide (pickF (Int.tdiv agg 10) 11 ≤ 10) && true) (LoopAt PP II false (loopOf II 30 9002) 14 { t := .n (.n (.n .e (some (AV.int .i64 top)) .e) none (.n (.n .e (some (AV.ptr 13 0 0 0)) .e) none .e)) none (.n (.n (.n .e (some (AV.ptr 12 0 0 0)) .e) none (.n .e (some (AV.int .i64 1)) .e)) (some (AV.int .i64 g)) .e), nt := 72, H := { n := 15, t := .n (.n .e none (.n .e none (.n .e (some zz4) .e))) none (.n (.n .e none (.n .e (some zz1) .e)) none (.n .e none (.n .e (some (ABlk.rows 0 1 (gRow G0) (Access.ty 3))) .e))) }, df := [] } (GE.one (AExit.x 0 { t := .n (.n (.n .e (some (AV.int .i64 top)) .e) none (.n (.n .e (some (AV.ptr 13 0 0 0)) .e) none .e)) none (.n (.n (.n .e (some (AV.ptr 12 0 0 0)) .e) none (.n .e (some (AV.int .i64 7)) .e)) (some (AV.int .i64 g)) .e), nt := 72, H := { n := 15, t := .n (.n .e none (.n .e none (.n .e (some zz3) .e))) none (.n (.n .e none (.n .e (some zz1) .e)) none (.n .e none (.n .e (some (ABlk.rows mN 1 (gRow GN) (Access.ty 3))) .e))) }, df := [] }))
 ∧ False)))) (LoopAt PP II false (loopOf II 30 9002) 14 { t := .n (.n (.n .e (some (AV.int .i64 top)) .e) none (.n (.n .e (some (AV.ptr 13 0 0 0)) .e) none .e)) none (.n (.n (.n .e (some (AV.ptr 12 0 0 0)) .e) none (.n .e (some (AV.int .i64 1)) .e)) (some (AV.int .i64 g)) .e), nt := 72, H := { n := 15, t := .n (.n .e none (.n .e none (.n .e (some zz4) .e))) none (.n (.n .e none (.n .e (some zz1) .e)) none (.n .e none (.n .e (some (ABlk.rows 0 1 (gRow G0) (Access.ty 3))) .e))) }, df := [] } (GE.one (AExit.x 0 { t := .n (.n (.n .e (some (AV.int .i64 top)) .e) none (.n (.n .e (some (AV.ptr 13 0 0 0)) .e) none .e)) none (.n (.n (.n .e (some (AV.ptr 12 0 0 0)) .e) none (.n .e (some (AV.int .i64 7)) .e)) (some (AV.int .i64 g)) .e), nt := 72, H := { n := 15, t := .n (.n .e none (.n .e none (.n .e (some zz3) .e))) none (.n (.n .e none (.n .e (some zz1) .e)) none (.n .e none (.n .e (some (ABlk.rows mN 1 (gRow GN) (Access.ty 3))) .e))) }, df := [] }))
 ∧ EqN (min n 6) nw (RowsLe (min n 6) (qRow (condI (rowsX (qRow X)))) (qRow C) ∧ EqI (1 + pickF agg 5) a (EqI 0 fl zz2))))))))) := by kernel_rfl
theorem query_vc5 (n : Nat) (X C : Nat → Nat → Int) (nw : Nat) (agg g top a fl : Int) (nu de : List UInt8) (mN : Nat) (G0 GN : Nat → Int) (Q : AV → Prop) : (kb [kConds, kPick67, kOf68] [(9002, 15, s30 15 nw C a fl nu de g top 1 0 G0, e30 15 nw C a fl nu de g top 7 mN GN)] 30 [.int .i64 agg, qAV n X, .int .i64 g, .int .i64 top] Q) = (let zz1 := (ABlk.cells [AV.nilSlice, AV.nilSlice, AV.int .i64 0, AV.int .i64 0, AV.str [], AV.str [], AV.int .i64 0] (Access.ty 34)); let zz2 := (EqB (tenN (Int.toNat (pickF (Int.tdiv agg 10) 11))) nu (EqB (tenD (Int.toNat (pickF (Int.tdiv agg 10) 11))) de (EqB [] [] (EqB [] [] (EqI top top (EqI g g (Cond (decide (Int.ofNat mN > 0)) (Asks (inR .i64 top && true) (Asks ((List.all (List.range.loop mN []) fun i => true) && decide (mN ≤ mN)) (Q (AV.agg [AV.fslice nw 3 (qRow C), AV.fslice mN 1 (gRow GN), AV.int .i64 a, AV.int .i64 fl, AV.str nu, AV.str de, AV.int
 .i64 (pickF top 5)])))) (Asks ((List.all (List.range.loop mN []) fun i => true) && decide (mN ≤ mN)) (Q (AV.agg [AV.fslice nw 3 (qRow C), AV.fslice mN 1 (gRow GN), AV.int .i64 a, AV.int .i64 fl, AV.str nu, AV.str de, AV.int .i64 0])))))))))); let zz3 := (ABlk.cells [AV.fslice nw 3 (qRow C), AV.own 15 mN 1, AV.int .i64 a, AV.int .i64 fl, AV.str nu, AV.str de, AV.int .i64 0] (Access.ty 34)); let zz4 := (ABlk.cells [AV.fslice nw 3 (qRow C), AV.own 15 0 1, AV.int .i64 a, AV.int .i64 fl, AV.str nu, AV.str de, AV.int .i64 0] (Access.ty 34)); (Asks (intsRows 3 n (qRow X)) (Asks (inR .i64 agg && true) (Asks (inR .i64 (1 + pickF agg 5)) (Cond (decide (1 + pickF agg 5 > 1)) (Asks (inR .i64 (Int.tdiv agg 5)) (Asks (inR .i64 (Int.tdiv agg 5) && true) (Asks (inR .i64 (7 + pickF (Int.tdiv agg 5) 2)) (Cond (decide (1 + pickF agg 5 = 5)) (Asks (inR .i64 (Int.tdiv agg 10)) (Asks (inR .i64 (Int.tdiv agg
 10) && true) (Asks (decide (0 ≤ pickF (Int.tdiv agg 10) 11) && decide (pickF (Int.tdiv agg 10) 11 ≤ 10) && true) (LoopAt PP II false (loopOf II 30 9002) 15 { t := .n (.n (.n .e (some (AV.int .i64 top)) .e) none (.n (.n .e (some (AV.ptr 13 0 0 0)) .e) none .e)) none (.n (.n (.n .e (some (AV.ptr 12 0 0 0)) .e) none (.n .e (some (AV.int .i64 1)) .e)) (some (AV.int .i64 g)) .e), nt := 72, H := { n := 16, t := .n (.n (.n (.n (.n .e (some (ABlk.rows 0 1 (gRow G0) (Access.ty 3))) .e) none .e) none .e) none (.n .e none (.n .e (some zz4) .e))) none (.n (.n .e none (.n .e (some zz1) .e)) none .e) }, df := [] } (GE.one (AExit.x 0 { t := .n (.n (.n .e (some (AV.int .i64 top)) .e) none (.n (.n .e (some (AV.ptr 13 0 0 0)) .e) none .e)) none (.n (.n (.n .e (some (AV.ptr 12 0 0 0)) .e) none (.n .e (some (AV.int .i64 7)) .e)) (some (AV.int .i64 g)) .e), nt := 72, H := { n := 16, t := .n (.n (.n (.n (.n .e (some (ABlk.rows mN 1 (gRow GN) (Access.ty 3))) .e) none .e) none .e) none (.n .e none (.n .e (some zz3) .e))) none (.n (.n .e none (.n .e (some zz1) .e)) none .e) }, df := [] }))
 ∧ EqN (min n 6) nw (RowsLe (min n 6) (qRow (condI (rowsX (qRow X)))) (qRow C) ∧ EqI (1 + pickF agg 5) a (EqI (7 + pickF (Int.tdiv agg 5) 2) fl zz2)))))) (LoopAt PP II false (loopOf II 30 9002) 15 { t := .n (.n (.n .e (some (AV.int .i64 top)) .e) none (.n (.n .e (some (AV.ptr 13 0 0 0)) .e) none .e)) none (.n (.n (.n .e (some (AV.ptr 12 0 0 0)) .e) none (.n .e (some (AV.int .i64 1)) .e)) (some (AV.int .i64 g)) .e), nt := 72, H := { n := 16, t := .n (.n (.n (.n (.n .e (some (ABlk.rows 0 1 (gRow G0) (Access.ty 3))) .e) none .e) none .e) none (.n .e none (.n .e (some zz4) .e))) none (.n (.n .e none (.n .e (some zz1) .e)) none .e) }, df := [] } (GE.one (AExit.x 0 { t := .n (.n (.n .e (some (AV.int .i64 top)) .e) none (.n (.n .e (some (AV.ptr 13 0 0 0)) .e) none .e)) none (.n (.n (.n .e (some (AV.ptr 12 0 0 0)) .e) none (.n .e (some (AV.int .i64 7)) .e)) (some (AV.int .i64 g)) .e), nt := 72, H := { n := 16, t := .n (.n (.n (.n (.n .e (some (ABlk.rows mN 1 (gRow GN) (Access.ty 3))) .e) none .e) none .e) none (.n .e none (.n .e (some zz3) .e))) none (.n (.n .e none (.n .e (some zz1) .e)) none .e) }, df := [] }))
 ∧ False))))) (Cond (decide (1 + pickF agg 5 = 5)) (Asks (inR .i64 (Int.tdiv agg 10)) (Asks (inR .i64 (Int.tdiv agg 10) && true) (Asks (decide (0 ≤ pickF (Int.tdiv agg 10) 11) && decide (pickF (Int.tdiv agg 10) 11 ≤ 10) && true) (LoopAt PP II false (loopOf II 30 9002) 15 { t := .n (.n (.n .e (some (AV.int .i64 top)) .e) none (.n (.n .e (some (AV.ptr 13 0 0 0)) .e) none .e)) none (.n (.n (.n .e (some (AV.ptr 12 0 0 0)) .e) none (.n .e (some (AV.int .i64 1)) .e)) (some (AV.int .i64 g)) .e), nt := 72, H := { n := 16, t := .n (.n (.n (.n (.n .e (some (ABlk.rows 0 1 (gRow G0) (Access.ty 3))) .e) none .e) none .e) none (.n .e none (.n .e (some zz4) .e))) none (.n (.n .e none (.n .e (some zz1) .e)) none .e) }, df := [] } (GE.one (AExit.x 0 { t := .n (.n (.n .e (some (AV.int .i64 top)) .e) none (.n (.n .e (some (AV.ptr 13 0 0 0)) .e) none .e)) none (.n (.n (.n .e (some (AV.ptr 12 0 0 0)) .e) none (.n .e (some (AV.int .i64 7)) .e)) (some (AV.int .i64 g)) .e), nt := 72, H := { n := 16, t := .n (.n (.n (.n (.n .e (some (ABlk.rows mN 1 (gRow GN) (Access.ty 3))) .e) none .e) none .e) none (.n .e none (.n .e (some zz3) .e))) none (.n (.n .e none (.n .e (some zz1) .e)) none .e) }, df := [] }))
 ∧ EqN (min n 6) nw (RowsLe (min n 6) (qRow (condI (rowsX (qRow X)))) (qRow C) ∧ EqI (1 + pickF agg 5) a (EqI 0 fl zz2)))))) (LoopAt PP II false (loopOf II 30 9002) 15 { t := .n (.n (.n .e (some (AV.int .i64 top)) .e) none (.n (.n .e (some (AV.ptr 13 0 0 0)) .e) none .e)) none (.n (.n (.n .e (some (AV.ptr 12 0 0 0)) .e) none (.n .e (some (AV.int .i64 1)) .e)) (some (AV.int .i64 g)) .e), nt := 72, H := { n := 16, t := .n (.n (.n (.n (.n .e (some (ABlk.rows 0 1 (gRow G0) (Access.ty 3))) .e) none .e) none .e) none (.n .e none (.n .e (some zz4) .e))) none (.n (.n .e none (.n .e (some zz1) .e)) none .e) }, df := [] } (GE.one (AExit.x 0 { t := .n (.n (.n .e (some (AV.int .i64 top)) .e) none (.n (.n .e (some (AV.ptr 13 0 0 0)) .e) none .e)) none (.n (.n (.n .e (some (AV.ptr 12 0 0 0)) .e) none (.n .e (some (AV.int .i64 7)) .e)) (some (AV.int .i64 g)) .e), nt := 72, H := { n := 16, t := .n (.n (.n (.n (.n .e (some (ABlk.rows mN 1 (gRow GN) (Access.ty 3))) .e) none .e) none .e) none (.n .e none (.n .e (some zz3) .e))) none (.n (.n .e none (.n .e (some zz1) .e)) none .e) }, df := [] }))
 ∧ False))))))) := by kernel_rfl
end Go.Sx
end
section
set_option maxRecDepth 1000000
namespace Go.Sx
open Go
theorem gRow_le (G:Nat→Int) (σ:Nat→Nat) (j:Nat): AVs.le σ (gRow G j) (gRow G j):=⟨⟨rfl,rfl⟩,trivial⟩
theorem gRows (n:Nat) (G:Nat→Int): RowsLe n (gRow G) (gRow G):=RowsLe.same fun σ j=>gRow_le G σ j
theorem grows_of {m:Nat} {g:Nat→List AV} {G:Nat→Int} (h : ∀ j,j<m→g j=gRow G j): RowsLe m g (gRow G):=fun j hj σ=>by rw [h j hj];exact gRow_le G σ j
def bitB (p:Int) (k:Nat): Bool:=decide (Int.tmod (Int.fdiv p (Int.pow 2 k)) 2=1)
def grpL (p:Int): Nat→List Int
 | 0=>[]
 | k+1=>match bitB p k&&decide ((grpL p k).length<3) with | true=>grpL p k++[(k:Int)+1] | false=>grpL p k
def grpF (p:Int) (k:Nat) (j:Nat): Int:=(grpL p k).getD j 0
theorem grpL_len (p:Int): ∀ k,(grpL p k).length≤3
 | 0=>by simp [grpL]
 | k+1=>by
  have:=grpL_len p k
  unfold grpL
  split
  ·rename_i h
   rw [Bool.and_eq_true,decide_eq_true_eq] at h
   simp only [List.length_append,List.length_cons,List.length_nil];omega
  ·exact this
theorem push_g {m:Nat} {L:List Int} {f:Int} (hm:m=L.length): RowsLe (m+1) (fun j=>bif Nat.blt j m then gRow (fun j=>L.getD j 0) j else List.take 1 (List.drop (0+(j-m)*1) [AV.int .i64 f])) (gRow fun j=>(L++[f]).getD j 0):=by
 refine grows_of fun j hj=>?_
 by_cases h:j<m
 ·simp only [(Nat.blt_eq ..).mpr h,cond_true,gRow]
  rw [List.getD_eq_getElem?_getD,List.getD_eq_getElem?_getD,List.getElem?_append_left (by omega)]
 ·have hj:j=m:=by omega
  have hb:Nat.blt j m=false:=by
   cases hb:Nat.blt j m with
   | false=>rfl
   | true=>exact absurd ((Nat.blt_eq ..).mp hb) h
  simp only [hb,cond_false]
  rw [hj,Nat.sub_self,hm]
  simp [gRow]
theorem group_round14 (nw:Nat) (C:Nat→Nat→Int) (a fl:Int) (nu de:List UInt8) (g top:Int) (f:Int) (k:Nat) (hf:f=(k:Int)+1) (hg:inR .i64 g=true) (fN:Int) (mN:Nat) (GN:Nat→Int) (Q:Prop) (hk:k≤6) (hQ:k<6→Q) (hN:k=6→fN=7∧mN=(grpL (pickF g 64) 6).length∧GN=grpF (pickF g 64) 6):
  kr [kPick67] [] 30 9002 14 (fun p:Grp=>s30 14 nw C a fl nu de g top p.f p.m p.G) (fun _=>e30 14 nw C a fl nu de g top fN mN GN) (fun _=>⟨f+1,(grpL (pickF g 64) (k+1)).length,grpF (pickF g 64) (k+1)⟩) Q ⟨f,(grpL (pickF g 64) k).length,grpF (pickF g 64) k⟩:=by
 refine (group_step nw C a fl nu de g top f _ _ _ _ _ fN mN GN Q).mpr ?_
 have hl:=grpL_len (pickF g 64) k
 have em:Int.ofNat (grpL (pickF g 64) k).length=((grpL (pickF g 64) k).length:Int):=rfl
 have hi:inR .i64 (f+1)=true:=inR_small (by omega) (by omega)
 have e1:Int.toNat (f-1)=k:=by omega
 rw [e1,if_pos (by omega:k≤64)]
 refine Cond.mkP (fun h6=>?_) fun h6=>?_
 ·have hk6:k<6:=by omega
  have q:=hQ hk6
  have step:grpL (pickF g 64) (k+1)=match bitB (pickF g 64) k&&decide ((grpL (pickF g 64) k).length<3) with | true=>grpL (pickF g 64) k++[(k:Int)+1] | false=>grpL (pickF g 64) k:=rfl
  have same:bitB (pickF g 64) k=false∨ ¬ (grpL (pickF g 64) k).length<3→grpL (pickF g 64) (k+1)=grpL (pickF g 64) k:=fun h=>by
   rw [step]
   have:(bitB (pickF g 64) k&&decide ((grpL (pickF g 64) k).length<3))=false:=by
    rcases h with h | h
    ·rw [h];rfl
    ·rw [decide_eq_false h,Bool.and_false]
   rw [this]
  have fin:bitB (pickF g 64) k=false∨ ¬ (grpL (pickF g 64) k).length<3→Asks (inR .i64 (f+1)) (EqN (grpL (pickF g 64) k).length (grpL (pickF g 64) (k+1)).length (RowsLe (grpL (pickF g 64) k).length (gRow (grpF (pickF g 64) k)) (gRow (grpF (pickF g 64) (k+1)))∧EqN nw nw (RowsLe nw (qRow C) (qRow C)∧EqN (grpL (pickF g 64) k).length (grpL (pickF g 64) (k+1)).length (EqI a a (EqI fl fl (EqB nu nu (EqB de de (EqB [] [] (EqB [] [] (EqI top top (EqI (f+1) (f+1) (EqI g g Q)))))))))))):=fun h=>by
   have e:grpL (pickF g 64) (k+1)=grpL (pickF g 64) k:=same h
   have e2:grpF (pickF g 64) (k+1)=grpF (pickF g 64) k:=by unfold grpF;rw [e]
   rw [e2,e]
   exact Asks.mk' _ _ hi (EqN.mk rfl ⟨gRows _ _,EqN.mk rfl ⟨qRows _ _,EqN.mk rfl (EqI.mk rfl (EqI.mk rfl (EqB.mk rfl (EqB.mk rfl (EqB.mk rfl (EqB.mk rfl (EqI.mk rfl (EqI.mk rfl (EqI.mk rfl q)))))))))⟩⟩)
  refine Asks.mk' _ _ (by rw [hg];rfl) (Asks.mk' _ _ (inR_small (by omega) (by omega)) (Asks.mk' _ _ (decide_eq_true (by omega)) (Cond.mkP (fun hb=>Cond.mkP (fun h3=>?_) fun h3=>?_) fun hb=>?_)))
  ·have h3':(grpL (pickF g 64) k).length<3:=by omega
   have e:grpL (pickF g 64) (k+1)=grpL (pickF g 64) k++[f]:=by
    rw [step]
    have:(bitB (pickF g 64) k&&decide ((grpL (pickF g 64) k).length<3))=true:=by
     unfold bitB
     rw [decide_eq_true hb,decide_eq_true h3'];rfl
    rw [this,hf]
   have e2:(grpL (pickF g 64) (k+1)).length=(grpL (pickF g 64) k).length+1:=by rw [e];simp
   have e3:grpF (pickF g 64) (k+1)=fun j=>(grpL (pickF g 64) k++[f]).getD j 0:=by funext j;unfold grpF;rw [e]
   rw [e2,e3]
   exact Asks.mk' _ _ (by simp only [Bool.and_eq_true,Bool.and_true,decide_eq_true_eq];omega) (Asks.mk' _ _ hi (EqN.mk rfl ⟨push_g rfl,EqN.mk rfl ⟨qRows _ _,EqN.mk rfl (EqI.mk rfl (EqI.mk rfl (EqB.mk rfl (EqB.mk rfl (EqB.mk rfl (EqB.mk rfl (EqI.mk rfl (EqI.mk rfl (EqI.mk rfl q)))))))))⟩⟩))
  ·exact fin (.inr (by omega))
  ·exact fin (.inl (decide_eq_false hb))
 ·have hk6:k=6:=by omega
  obtain ⟨h1,h2,h3⟩:=hN hk6
  subst hk6
  rw [h2,h3]
  exact EqN.mk rfl ⟨gRows _ _,EqN.mk rfl ⟨qRows _ _,EqN.mk rfl (EqI.mk rfl (EqI.mk rfl (EqB.mk rfl (EqB.mk rfl (EqB.mk rfl (EqB.mk rfl (EqI.mk rfl (EqI.mk (by omega) (EqI.mk rfl trivial)))))))))⟩⟩
theorem group_loop14 (nw:Nat) (C:Nat→Nat→Int) (a fl:Int) (nu de:List UInt8) (g top:Int) (hg:inR .i64 g=true):
  LoopAt PP II false (loopOf II 30 9002) 14 (s30 14 nw C a fl nu de g top 1 0 (grpF (pickF g 64) 0)) (e30 14 nw C a fl nu de g top 7 (grpL (pickF g 64) 6).length (grpF (pickF g 64) 6)):=by
 have key:=LoopAt.of (ι:=Nat) hII [kPick67] (lamT_ok PP II []) 1000 (c:=loopOf II 30 9002) (ir:=false) 14 (fun k=>k≤6) (fun k=>s30 14 nw C a fl nu de g top ((k:Int)+1) (grpL (pickF g 64) k).length (grpF (pickF g 64) k)) (fun _=>e30 14 nw C a fl nu de g top 7 (grpL (pickF g 64) 6).length (grpF (pickF g 64) 6)) (fun k=>6-k) (fun k=>k+1) 0 rfl (by omega) fun k hk=>by
  have:=group_round14 nw C a fl nu de g top ((k:Int)+1) k rfl hg 7 _ _ (k+1≤6∧6-(k+1)<6-k∧(e30 14 nw C a fl nu de g top 7 (grpL (pickF g 64) 6).length (grpF (pickF g 64) 6)).pick=(e30 14 nw C a fl nu de g top 7 (grpL (pickF g 64) 6).length (grpF (pickF g 64) 6)).pick) hk (fun h=>⟨by omega,by omega,rfl⟩) (fun _=>⟨rfl,rfl,rfl⟩)
  exact this
 exact key
theorem group_round15 (nw:Nat) (C:Nat→Nat→Int) (a fl:Int) (nu de:List UInt8) (g top:Int) (f:Int) (k:Nat) (hf:f=(k:Int)+1) (hg:inR .i64 g=true) (fN:Int) (mN:Nat) (GN:Nat→Int) (Q:Prop) (hk:k≤6) (hQ:k<6→Q) (hN:k=6→fN=7∧mN=(grpL (pickF g 64) 6).length∧GN=grpF (pickF g 64) 6):
  kr [kPick67] [] 30 9002 15 (fun p:Grp=>s30 15 nw C a fl nu de g top p.f p.m p.G) (fun _=>e30 15 nw C a fl nu de g top fN mN GN) (fun _=>⟨f+1,(grpL (pickF g 64) (k+1)).length,grpF (pickF g 64) (k+1)⟩) Q ⟨f,(grpL (pickF g 64) k).length,grpF (pickF g 64) k⟩:=by
 refine (group_step5 nw C a fl nu de g top f _ _ _ _ _ fN mN GN Q).mpr ?_
 have hl:=grpL_len (pickF g 64) k
 have em:Int.ofNat (grpL (pickF g 64) k).length=((grpL (pickF g 64) k).length:Int):=rfl
 have hi:inR .i64 (f+1)=true:=inR_small (by omega) (by omega)
 have e1:Int.toNat (f-1)=k:=by omega
 rw [e1,if_pos (by omega:k≤64)]
 refine Cond.mkP (fun h6=>?_) fun h6=>?_
 ·have hk6:k<6:=by omega
  have q:=hQ hk6
  have step:grpL (pickF g 64) (k+1)=match bitB (pickF g 64) k&&decide ((grpL (pickF g 64) k).length<3) with | true=>grpL (pickF g 64) k++[(k:Int)+1] | false=>grpL (pickF g 64) k:=rfl
  have same:bitB (pickF g 64) k=false∨ ¬ (grpL (pickF g 64) k).length<3→grpL (pickF g 64) (k+1)=grpL (pickF g 64) k:=fun h=>by
   rw [step]
   have:(bitB (pickF g 64) k&&decide ((grpL (pickF g 64) k).length<3))=false:=by
    rcases h with h | h
    ·rw [h];rfl
    ·rw [decide_eq_false h,Bool.and_false]
   rw [this]
  have fin:bitB (pickF g 64) k=false∨ ¬ (grpL (pickF g 64) k).length<3→Asks (inR .i64 (f+1)) (EqN (grpL (pickF g 64) k).length (grpL (pickF g 64) (k+1)).length (RowsLe (grpL (pickF g 64) k).length (gRow (grpF (pickF g 64) k)) (gRow (grpF (pickF g 64) (k+1)))∧EqN nw nw (RowsLe nw (qRow C) (qRow C)∧EqN (grpL (pickF g 64) k).length (grpL (pickF g 64) (k+1)).length (EqI a a (EqI fl fl (EqB nu nu (EqB de de (EqB [] [] (EqB [] [] (EqI top top (EqI (f+1) (f+1) (EqI g g Q)))))))))))):=fun h=>by
   have e:grpL (pickF g 64) (k+1)=grpL (pickF g 64) k:=same h
   have e2:grpF (pickF g 64) (k+1)=grpF (pickF g 64) k:=by unfold grpF;rw [e]
   rw [e2,e]
   exact Asks.mk' _ _ hi (EqN.mk rfl ⟨gRows _ _,EqN.mk rfl ⟨qRows _ _,EqN.mk rfl (EqI.mk rfl (EqI.mk rfl (EqB.mk rfl (EqB.mk rfl (EqB.mk rfl (EqB.mk rfl (EqI.mk rfl (EqI.mk rfl (EqI.mk rfl q)))))))))⟩⟩)
  refine Asks.mk' _ _ (by rw [hg];rfl) (Asks.mk' _ _ (inR_small (by omega) (by omega)) (Asks.mk' _ _ (decide_eq_true (by omega)) (Cond.mkP (fun hb=>Cond.mkP (fun h3=>?_) fun h3=>?_) fun hb=>?_)))
  ·have h3':(grpL (pickF g 64) k).length<3:=by omega
   have e:grpL (pickF g 64) (k+1)=grpL (pickF g 64) k++[f]:=by
    rw [step]
    have:(bitB (pickF g 64) k&&decide ((grpL (pickF g 64) k).length<3))=true:=by
     unfold bitB
     rw [decide_eq_true hb,decide_eq_true h3'];rfl
    rw [this,hf]
   have e2:(grpL (pickF g 64) (k+1)).length=(grpL (pickF g 64) k).length+1:=by rw [e];simp
   have e3:grpF (pickF g 64) (k+1)=fun j=>(grpL (pickF g 64) k++[f]).getD j 0:=by funext j;unfold grpF;rw [e]
   rw [e2,e3]
   exact Asks.mk' _ _ (by simp only [Bool.and_eq_true,Bool.and_true,decide_eq_true_eq];omega) (Asks.mk' _ _ hi (EqN.mk rfl ⟨push_g rfl,EqN.mk rfl ⟨qRows _ _,EqN.mk rfl (EqI.mk rfl (EqI.mk rfl (EqB.mk rfl (EqB.mk rfl (EqB.mk rfl (EqB.mk rfl (EqI.mk rfl (EqI.mk rfl (EqI.mk rfl q)))))))))⟩⟩))
  ·exact fin (.inr (by omega))
  ·exact fin (.inl (decide_eq_false hb))
 ·have hk6:k=6:=by omega
  obtain ⟨h1,h2,h3⟩:=hN hk6
  subst hk6
  rw [h2,h3]
  exact EqN.mk rfl ⟨gRows _ _,EqN.mk rfl ⟨qRows _ _,EqN.mk rfl (EqI.mk rfl (EqI.mk rfl (EqB.mk rfl (EqB.mk rfl (EqB.mk rfl (EqB.mk rfl (EqI.mk rfl (EqI.mk (by omega) (EqI.mk rfl trivial)))))))))⟩⟩
theorem group_loop15 (nw:Nat) (C:Nat→Nat→Int) (a fl:Int) (nu de:List UInt8) (g top:Int) (hg:inR .i64 g=true):
  LoopAt PP II false (loopOf II 30 9002) 15 (s30 15 nw C a fl nu de g top 1 0 (grpF (pickF g 64) 0)) (e30 15 nw C a fl nu de g top 7 (grpL (pickF g 64) 6).length (grpF (pickF g 64) 6)):=by
 have key:=LoopAt.of (ι:=Nat) hII [kPick67] (lamT_ok PP II []) 1000 (c:=loopOf II 30 9002) (ir:=false) 15 (fun k=>k≤6) (fun k=>s30 15 nw C a fl nu de g top ((k:Int)+1) (grpL (pickF g 64) k).length (grpF (pickF g 64) k)) (fun _=>e30 15 nw C a fl nu de g top 7 (grpL (pickF g 64) 6).length (grpF (pickF g 64) 6)) (fun k=>6-k) (fun k=>k+1) 0 rfl (by omega) fun k hk=>by
  have:=group_round15 nw C a fl nu de g top ((k:Int)+1) k rfl hg 7 _ _ (k+1≤6∧6-(k+1)<6-k∧(e30 15 nw C a fl nu de g top 7 (grpL (pickF g 64) 6).length (grpF (pickF g 64) 6)).pick=(e30 15 nw C a fl nu de g top 7 (grpL (pickF g 64) 6).length (grpF (pickF g 64) 6)).pick) hk (fun h=>⟨by omega,by omega,rfl⟩) (fun _=>⟨rfl,rfl,rfl⟩)
  exact this
 exact key
def madeQ (agg:Int) (n:Nat) (X:Nat→Nat→Int) (g top:Int): Query where
 nw:=min n 6
 C:=condI X
 ng:=(grpL (pickF g 64) 6).length
 G:=grpF (pickF g 64) 6
 a:=1+pickF agg 5
 fl:=match decide (1+pickF agg 5>1) with | true=>7+pickF (Int.tdiv agg 5) 2 | false=>0
 nu:=match decide (1+pickF agg 5=5) with | true=>tenN (Int.toNat (pickF (Int.tdiv agg 10) 11)) | false=>[]
 de:=match decide (1+pickF agg 5=5) with | true=>tenD (Int.toNat (pickF (Int.tdiv agg 10) 11)) | false=>[]
 top:=match decide (Int.ofNat (grpL (pickF g 64) 6).length>0) with | true=>pickF top 5 | false=>0
theorem condX (X:Nat→Nat→Int): condI (rowsX (qRow X))=condI X:=by
 funext j k
 unfold condI
 split<;>rfl
theorem queryAV_le (q:Query) (σ:Nat→Nat): AVs.le σ (queryAV q) (queryAV q):=⟨⟨rfl,rfl,fun i hi=>qRow_le _ _ _⟩,⟨rfl,rfl,fun i hi=>gRow_le _ _ _⟩,⟨rfl,rfl⟩,⟨rfl,rfl⟩,rfl,rfl,⟨rfl,rfl⟩,trivial⟩
theorem query_ok (agg:Int) (n:Nat) (X:Nat→Nat→Int) (g top:Int) (hx:intsRows 3 n (qRow X)=true) (ha:inR .i64 agg=true) (hg:inR .i64 g=true) (ht:inR .i64 top=true):
  CallGives PP II 30 [.int .i64 agg,qAV n X,.int .i64 g,.int .i64 top] (AH.blank 12) (.ret (.agg (queryAV (madeQ agg n X g top))) (AH.blank 12)):=by
 have p1:=pickF_lt (c:=agg) (n:=5) (by omega)
 have p2:=pickF_lt (c:=Int.tdiv agg 5) (n:=2) (by omega)
 have p3:=pickF_lt (c:=Int.tdiv agg 10) (n:=11) (by omega)
 have t1:=tdiv_inR ha (k:=5) (by omega)
 have t2:=tdiv_inR ha (k:=10) (by omega)
 have r1:RowsLe (min n 6) (qRow (condI (rowsX (qRow X)))) (qRow (condI X)):=by rw [condX];exact qRows _ _
 have fin : ∀ {a fl:Int} {nu de:List UInt8},a=1+pickF agg 5→fl=(madeQ agg n X g top).fl→nu=(madeQ agg n X g top).nu→de=(madeQ agg n X g top).de→
   Cond (decide (Int.ofNat (grpL (pickF g 64) 6).length>0)) (Asks (inR .i64 top&&true) (Asks ((List.all (List.range.loop (grpL (pickF g 64) 6).length []) fun i=>true)&&decide ((grpL (pickF g 64) 6).length≤(grpL (pickF g 64) 6).length)) (AV.agg [AV.fslice (min n 6) 3 (qRow (condI X)),AV.fslice (grpL (pickF g 64) 6).length 1 (gRow (grpF (pickF g 64) 6)),AV.int .i64 a,AV.int .i64 fl,AV.str nu,AV.str de,AV.int .i64 (pickF top 5)]=AV.agg (queryAV (madeQ agg n X g top)))))
    (Asks ((List.all (List.range.loop (grpL (pickF g 64) 6).length []) fun i=>true)&&decide ((grpL (pickF g 64) 6).length≤(grpL (pickF g 64) 6).length)) (AV.agg [AV.fslice (min n 6) 3 (qRow (condI X)),AV.fslice (grpL (pickF g 64) 6).length 1 (gRow (grpF (pickF g 64) 6)),AV.int .i64 a,AV.int .i64 fl,AV.str nu,AV.str de,AV.int .i64 0]=AV.agg (queryAV (madeQ agg n X g top)))):=by
  intro a fl nu de h1 h2 h3 h4
  subst h1 h2 h3 h4
  refine Cond.mkP (fun h=>Asks.mk' _ _ (by rw [ht];rfl) (Asks.mk' _ _ (by simp) ?_)) fun h=>Asks.mk' _ _ (by simp) ?_
  ·have:(madeQ agg n X g top).top=pickF top 5:=by
    show (match decide (Int.ofNat (grpL (pickF g 64) 6).length>0) with | true=>pickF top 5 | false=>0)=_
    rw [decide_eq_true h]
   show _=AV.agg [_,_,_,_,_,_,AV.int .i64 (madeQ agg n X g top).top]
   rw [this];rfl
  ·have:(madeQ agg n X g top).top=0:=by
    show (match decide (Int.ofNat (grpL (pickF g 64) 6).length>0) with | true=>pickF top 5 | false=>0)=_
    rw [decide_eq_false h]
   show _=AV.agg [_,_,_,_,_,_,AV.int .i64 (madeQ agg n X g top).top]
   rw [this];rfl
 have hfl1:1+pickF agg 5>1→(madeQ agg n X g top).fl=7+pickF (Int.tdiv agg 5) 2:=fun h=>by
  show (match decide (1+pickF agg 5>1) with | true=>7+pickF (Int.tdiv agg 5) 2 | false=>0)=_
  rw [decide_eq_true h]
 have hfl0 : ¬ 1+pickF agg 5>1→(madeQ agg n X g top).fl=0:=fun h=>by
  show (match decide (1+pickF agg 5>1) with | true=>7+pickF (Int.tdiv agg 5) 2 | false=>0)=_
  rw [decide_eq_false h]
 by_cases h5:1+pickF agg 5=5
 ·have hnu:(madeQ agg n X g top).nu=tenN (Int.toNat (pickF (Int.tdiv agg 10) 11)):=by
   show (match decide (1+pickF agg 5=5) with | true=>tenN (Int.toNat (pickF (Int.tdiv agg 10) 11)) | false=>[])=_
   rw [decide_eq_true h5]
  have hde:(madeQ agg n X g top).de=tenD (Int.toNat (pickF (Int.tdiv agg 10) 11)):=by
   show (match decide (1+pickF agg 5=5) with | true=>tenD (Int.toNat (pickF (Int.tdiv agg 10) 11)) | false=>[])=_
   rw [decide_eq_true h5]
  refine of_kb (ks:=[kConds,kPick67,kOf68]) (T:=[(9002,15,s30 15 (min n 6) (condI X) (1+pickF agg 5) (madeQ agg n X g top).fl (madeQ agg n X g top).nu (madeQ agg n X g top).de g top 1 0 (grpF (pickF g 64) 0),e30 15 (min n 6) (condI X) (1+pickF agg 5) (madeQ agg n X g top).fl (madeQ agg n X g top).nu (madeQ agg n X g top).de g top 7 (grpL (pickF g 64) 6).length (grpF (pickF g 64) 6))]) (fun σ=>queryAV_le _ σ) ?_
  have hl:=group_loop15 (min n 6) (condI X) (1+pickF agg 5) (madeQ agg n X g top).fl (madeQ agg n X g top).nu (madeQ agg n X g top).de g top hg
  rw [query_vc5]
  have f1:=fin rfl rfl rfl rfl
  rw [hnu,hde] at f1 hl⊢
  rw [hfl1 (by omega)] at f1 hl⊢
  repeat' (first
   | refine Asks.mk' _ _ (by first | exact hx | (rw [hx];rfl) | (rw [ha];rfl) | exact t1 | exact t2 | (rw [t1];rfl) | (rw [t2];rfl) | exact inR_small (by omega) (by omega) | (simp only [Bool.and_eq_true,Bool.and_true,decide_eq_true_eq];omega)) ?_
   | exact ⟨hl,EqN.mk rfl ⟨r1,EqI.mk rfl (EqI.mk rfl (EqB.mk rfl (EqB.mk rfl (EqB.mk rfl (EqB.mk rfl (EqI.mk rfl (EqI.mk rfl f1)))))))⟩⟩
   | refine Cond.mkP (fun h=>?_) fun h=>?_
   | (exfalso;omega))
 ·have hnu:(madeQ agg n X g top).nu=[]:=by
   show (match decide (1+pickF agg 5=5) with | true=>tenN (Int.toNat (pickF (Int.tdiv agg 10) 11)) | false=>[])=_
   rw [decide_eq_false h5]
  have hde:(madeQ agg n X g top).de=[]:=by
   show (match decide (1+pickF agg 5=5) with | true=>tenD (Int.toNat (pickF (Int.tdiv agg 10) 11)) | false=>[])=_
   rw [decide_eq_false h5]
  refine of_kb (ks:=[kConds,kPick67,kOf68]) (T:=[(9002,14,s30 14 (min n 6) (condI X) (1+pickF agg 5) (madeQ agg n X g top).fl [] [] g top 1 0 (grpF (pickF g 64) 0),e30 14 (min n 6) (condI X) (1+pickF agg 5) (madeQ agg n X g top).fl [] [] g top 7 (grpL (pickF g 64) 6).length (grpF (pickF g 64) 6))]) (fun σ=>queryAV_le _ σ) ?_
  have hl:=group_loop14 (min n 6) (condI X) (1+pickF agg 5) (madeQ agg n X g top).fl [] [] g top hg
  rw [query_vc]
  have f1:=fin rfl rfl rfl rfl
  rw [hnu,hde] at f1
  by_cases h1:1+pickF agg 5>1
  ·rw [hfl1 h1] at f1 hl⊢
   repeat' (first
    | refine Asks.mk' _ _ (by first | exact hx | (rw [hx];rfl) | (rw [ha];rfl) | exact t1 | exact t2 | (rw [t1];rfl) | (rw [t2];rfl) | exact inR_small (by omega) (by omega) | (simp only [Bool.and_eq_true,Bool.and_true,decide_eq_true_eq];omega)) ?_
    | exact ⟨hl,EqN.mk rfl ⟨r1,EqI.mk rfl (EqI.mk rfl (EqB.mk rfl (EqB.mk rfl (EqB.mk rfl (EqB.mk rfl (EqI.mk rfl (EqI.mk rfl f1)))))))⟩⟩
    | refine Cond.mkP (fun h=>?_) fun h=>?_
    | (exfalso;omega))
  ·rw [hfl0 h1] at f1 hl⊢
   repeat' (first
    | refine Asks.mk' _ _ (by first | exact hx | (rw [hx];rfl) | (rw [ha];rfl) | exact t1 | exact t2 | (rw [t1];rfl) | (rw [t2];rfl) | exact inR_small (by omega) (by omega) | (simp only [Bool.and_eq_true,Bool.and_true,decide_eq_true_eq];omega)) ?_
    | exact ⟨hl,EqN.mk rfl ⟨r1,EqI.mk rfl (EqI.mk rfl (EqB.mk rfl (EqB.mk rfl (EqB.mk rfl (EqB.mk rfl (EqI.mk rfl (EqI.mk rfl f1)))))))⟩⟩
    | refine Cond.mkP (fun h=>?_) fun h=>?_
    | (exfalso;omega))
end Go.Sx
end
