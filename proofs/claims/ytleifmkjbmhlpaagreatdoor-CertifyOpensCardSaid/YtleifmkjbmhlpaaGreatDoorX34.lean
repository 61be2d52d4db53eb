/- CertifyOpens is proved, part 34. -/
import Derived.Test.YtleifmkjbmhlpaaGreatDoorX33
set_option linter.unusedVariables false
set_option linter.unusedSimpArgs false
set_option linter.unusedSectionVars false
section
set_option maxRecDepth 1000000
namespace Go.Sx
open Go
noncomputable abbrev kbH (ks:List (Known PP II)) (f:FuncId) (args:List AV) (H H':AH): Prop:=kbody ks (lamT PP II []) 1000 f args H (fun a H1=>ResLq H.n a H1 (.tup []) H' True) (fun _ _=>False)
def argsL (x:Fact): List AV:=[.fptr (cellsOf (leafF x) x .nilSlice) 0,.ptr 12 0 0 0,.ptr 13 0 0 0,.ptr 14 0 0 0]
def argsN (l r:Tree): List AV:=[.fptr (cellsOf (joinF (topF l) (topF r)) zeroFact (.fslice 2 1 (pairRow (.fptr (cellsOf (topF l) (factF l) (kidsF l)) 0) (.fptr (cellsOf (topF r) (factF r) (kidsF r)) 0)))) 0,.ptr 12 0 0 0,.ptr 13 0 0 0,.ptr 14 0 0 0]
theorem put_leaf (x : Fact) (nw : Nat) (f : Nat → List AV) (ng : Nat) (g : Nat → List AV) (a fl : Int) (nu de : List UInt8) (top n : Int) (m M : Nat) (F F' : Nat → List AV) : (kbH [kExcl] 33 (argsL x) (putH ⟨nw, f, ng, g, a, fl, nu, de, top⟩ n m F) (putH1 ⟨nw, f, ng, g, a, fl, nu, de, top⟩ n M F')) = (Asks (intsRows 3 nw f && intsRows 1 ng g) (Asks (opsB nw (rowsX f) && true && true) (Cond (exclF nw (rowsX f) [AV.int .i64 ((leafF x).lo 0), AV.int .i64 ((leafF x).lo 1), AV.int .i64 ((leafF x).lo 2), AV.int .i64 ((leafF x).lo 3), AV.int .i64 ((leafF x).lo 4), AV.int .i64 ((leafF x).lo 5), AV.int .i64 ((leafF x).lo 6), AV.int .i64 ((leafF x).lo 7), AV.int .i64 ((leafF x).hi 0), AV.int .i64 ((leafF x).hi 1), AV.int .i64 ((leafF x).hi 2), AV.int .i64 ((leafF x).hi 3), AV.int .i64 ((leafF x).hi 4), AV.int .i64 ((leafF x).hi 5), AV.int .i64 ((leafF x).hi 6), AV.int .i64 ((leafF x).hi 7)]) (Asks
 (decide (m ≤ m) && true && true && decide ((m + 1) * 248 ≤ 140737488355328) && true) (EqN (m + 1) M (RowsLe (m + 1) (fun i => bif Nat.blt i m then F i else List.take 29 (List.drop (0 + (i - m) * 29) [AV.int .i64 3, AV.int .i64 0, AV.int .i64 0, AV.int .i64 0, AV.int .i64 0, AV.int .i64 0, AV.int .i64 0, AV.int .i64 0, AV.int .i64 0, AV.int .i64 0, AV.int .i64 0, AV.int .i64 ((leafF x).lo 0), AV.int .i64 ((leafF x).lo 1), AV.int .i64 ((leafF x).lo 2), AV.int .i64 ((leafF x).lo 3), AV.int .i64 ((leafF x).lo 4), AV.int .i64 ((leafF x).lo 5), AV.int .i64 ((leafF x).lo 6), AV.int .i64 ((leafF x).lo 7), AV.int .i64 ((leafF x).hi 0), AV.int .i64 ((leafF x).hi 1), AV.int .i64 ((leafF x).hi 2), AV.int .i64 ((leafF x).hi 3), AV.int .i64 ((leafF x).hi 4), AV.int .i64 ((leafF x).hi 5), AV.int .i64 ((leafF x).hi 6), AV.int .i64 ((leafF x).hi 7), AV.str (leafF x).l, AV.str (leafF x).r])) F' ∧ EqI n n
 (EqN (m + 1) M (EqN nw nw (RowsLe nw f f ∧ EqN ng ng (RowsLe ng g g ∧ EqI a a (EqI fl fl (EqB nu nu (EqB de de (EqI top top True))))))))))) (Asks (decide (m ≤ m) && true && true && decide ((m + 1) * 248 ≤ 140737488355328) && true) (EqN (m + 1) M (RowsLe (m + 1) (fun i => bif Nat.blt i m then F i else List.take 29 (List.drop (0 + (i - m) * 29) [AV.int .i64 2, AV.int .i64 x.t, AV.int .i64 x.s, AV.int .i64 x.v, AV.int .i64 x.w, AV.int .i64 x.o, AV.int .i64 x.p, AV.int .i64 x.d, AV.int .i64 x.l, AV.int .i64 x.h, AV.int .i64 x.b, AV.int .i64 0, AV.int .i64 0, AV.int .i64 0, AV.int .i64 0, AV.int .i64 0, AV.int .i64 0, AV.int .i64 0, AV.int .i64 0, AV.int .i64 0, AV.int .i64 0, AV.int .i64 0, AV.int .i64 0, AV.int .i64 0, AV.int .i64 0, AV.int .i64 0, AV.int .i64 0, AV.str [], AV.str []])) F' ∧ EqI n n (EqN (m + 1) M (EqN nw nw (RowsLe nw f f ∧ EqN ng ng (RowsLe ng g g ∧ EqI a a (EqI fl fl
 (EqB nu nu (EqB de de (EqI top top True)))))))))))))) := by kernel_rfl
theorem put_leaf0 (x : Fact) (nw : Nat) (f : Nat → List AV) (ng : Nat) (g : Nat → List AV) (a fl : Int) (nu de : List UInt8) (top n : Int) (M : Nat) (F' : Nat → List AV) : (kbH [kExcl] 33 (argsL x) (putH0 ⟨nw, f, ng, g, a, fl, nu, de, top⟩ n) (putH ⟨nw, f, ng, g, a, fl, nu, de, top⟩ n M F')) = (Asks (intsRows 3 nw f && intsRows 1 ng g) (Asks (opsB nw (rowsX f) && true && true) (Cond (exclF nw (rowsX f) [AV.int .i64 ((leafF x).lo 0), AV.int .i64 ((leafF x).lo 1), AV.int .i64 ((leafF x).lo 2), AV.int .i64 ((leafF x).lo 3), AV.int .i64 ((leafF x).lo 4), AV.int .i64 ((leafF x).lo 5), AV.int .i64 ((leafF x).lo 6), AV.int .i64 ((leafF x).lo 7), AV.int .i64 ((leafF x).hi 0), AV.int .i64 ((leafF x).hi 1), AV.int .i64 ((leafF x).hi 2), AV.int .i64 ((leafF x).hi 3), AV.int .i64 ((leafF x).hi 4), AV.int .i64 ((leafF x).hi 5), AV.int .i64 ((leafF x).hi 6), AV.int .i64 ((leafF x).hi 7)]) (EqN 29 (M *
 29) (RowsLe M (cutRow [AV.int .i64 3, AV.int .i64 0, AV.int .i64 0, AV.int .i64 0, AV.int .i64 0, AV.int .i64 0, AV.int .i64 0, AV.int .i64 0, AV.int .i64 0, AV.int .i64 0, AV.int .i64 0, AV.int .i64 ((leafF x).lo 0), AV.int .i64 ((leafF x).lo 1), AV.int .i64 ((leafF x).lo 2), AV.int .i64 ((leafF x).lo 3), AV.int .i64 ((leafF x).lo 4), AV.int .i64 ((leafF x).lo 5), AV.int .i64 ((leafF x).lo 6), AV.int .i64 ((leafF x).lo 7), AV.int .i64 ((leafF x).hi 0), AV.int .i64 ((leafF x).hi 1), AV.int .i64 ((leafF x).hi 2), AV.int .i64 ((leafF x).hi 3), AV.int .i64 ((leafF x).hi 4), AV.int .i64 ((leafF x).hi 5), AV.int .i64 ((leafF x).hi 6), AV.int .i64 ((leafF x).hi 7), AV.str (leafF x).l, AV.str (leafF x).r] 29) F' ∧ EqI n n (EqN 1 M (EqN nw nw (RowsLe nw f f ∧ EqN ng ng (RowsLe ng g g ∧ EqI a a (EqI fl fl (EqB nu nu (EqB de de (EqI top top True)))))))))) (EqN 29 (M * 29) (RowsLe M (cutRow [AV.int
 .i64 2, AV.int .i64 x.t, AV.int .i64 x.s, AV.int .i64 x.v, AV.int .i64 x.w, AV.int .i64 x.o, AV.int .i64 x.p, AV.int .i64 x.d, AV.int .i64 x.l, AV.int .i64 x.h, AV.int .i64 x.b, AV.int .i64 0, AV.int .i64 0, AV.int .i64 0, AV.int .i64 0, AV.int .i64 0, AV.int .i64 0, AV.int .i64 0, AV.int .i64 0, AV.int .i64 0, AV.int .i64 0, AV.int .i64 0, AV.int .i64 0, AV.int .i64 0, AV.int .i64 0, AV.int .i64 0, AV.int .i64 0, AV.str [], AV.str []] 29) F' ∧ EqI n n (EqN 1 M (EqN nw nw (RowsLe nw f f ∧ EqN ng ng (RowsLe ng g g ∧ EqI a a (EqI fl fl (EqB nu nu (EqB de de (EqI top top True))))))))))))) := by kernel_rfl
theorem put_node (l r : Tree) (S : Tree → Prop) (hS : ∀ t, S t → Puts t) (nw : Nat) (f : Nat → List AV) (ng : Nat) (g : Nat → List AV) (a fl : Int) (nu de : List UInt8) (top n : Int) (m M : Nat) (F F' : Nat → List AV) : (kbH [kExcl, kPutT S hS] 33 (argsN l r) (putH ⟨nw, f, ng, g, a, fl, nu, de, top⟩ n m F) (putH1 ⟨nw, f, ng, g, a, fl, nu, de, top⟩ n M F')) = (Asks (intsRows 3 nw f && intsRows 1 ng g) (Asks (opsB nw (rowsX f) && true && true) (Cond (exclF nw (rowsX f) [AV.int .i64 (Node.lo (joinF (topF l) (topF r)) 0), AV.int .i64 (Node.lo (joinF (topF l) (topF r)) 1), AV.int .i64 (Node.lo (joinF (topF l) (topF r)) 2), AV.int .i64 (Node.lo (joinF (topF l) (topF r)) 3), AV.int .i64 (Node.lo (joinF (topF l) (topF r)) 4), AV.int .i64 (Node.lo (joinF (topF l) (topF r)) 5), AV.int .i64 (Node.lo (joinF (topF l) (topF r)) 6), AV.int .i64 (Node.lo (joinF (topF l) (topF r)) 7), AV.int .i64 (Node.hi
 (joinF (topF l) (topF r)) 0), AV.int .i64 (Node.hi (joinF (topF l) (topF r)) 1), AV.int .i64 (Node.hi (joinF (topF l) (topF r)) 2), AV.int .i64 (Node.hi (joinF (topF l) (topF r)) 3), AV.int .i64 (Node.hi (joinF (topF l) (topF r)) 4), AV.int .i64 (Node.hi (joinF (topF l) (topF r)) 5), AV.int .i64 (Node.hi (joinF (topF l) (topF r)) 6), AV.int .i64 (Node.hi (joinF (topF l) (topF r)) 7)]) (Asks (decide (m ≤ m) && true && true && decide ((m + 1) * 248 ≤ 140737488355328) && true) (EqN (m + 1) M (RowsLe (m + 1) (fun i => bif Nat.blt i m then F i else List.take 29 (List.drop (0 + (i - m) * 29) [AV.int .i64 3, AV.int .i64 0, AV.int .i64 0, AV.int .i64 0, AV.int .i64 0, AV.int .i64 0, AV.int .i64 0, AV.int .i64 0, AV.int .i64 0, AV.int .i64 0, AV.int .i64 0, AV.int .i64 (Node.lo (joinF (topF l) (topF r)) 0), AV.int .i64 (Node.lo (joinF (topF l) (topF r)) 1), AV.int .i64 (Node.lo (joinF (topF l)
 (topF r)) 2), AV.int .i64 (Node.lo (joinF (topF l) (topF r)) 3), AV.int .i64 (Node.lo (joinF (topF l) (topF r)) 4), AV.int .i64 (Node.lo (joinF (topF l) (topF r)) 5), AV.int .i64 (Node.lo (joinF (topF l) (topF r)) 6), AV.int .i64 (Node.lo (joinF (topF l) (topF r)) 7), AV.int .i64 (Node.hi (joinF (topF l) (topF r)) 0), AV.int .i64 (Node.hi (joinF (topF l) (topF r)) 1), AV.int .i64 (Node.hi (joinF (topF l) (topF r)) 2), AV.int .i64 (Node.hi (joinF (topF l) (topF r)) 3), AV.int .i64 (Node.hi (joinF (topF l) (topF r)) 4), AV.int .i64 (Node.hi (joinF (topF l) (topF r)) 5), AV.int .i64 (Node.hi (joinF (topF l) (topF r)) 6), AV.int .i64 (Node.hi (joinF (topF l) (topF r)) 7), AV.str (Node.l (joinF (topF l) (topF r))), AV.str (Node.r (joinF (topF l) (topF r)))])) F' ∧ EqI n n (EqN (m + 1) M (EqN nw nw (RowsLe nw f f ∧ EqN ng ng (RowsLe ng g g ∧ EqI a a (EqI fl fl (EqB nu nu (EqB de de (EqI top
 top True))))))))))) (Asks (decide (m ≤ m) && true && true && decide ((m + 1) * 248 ≤ 140737488355328) && true) (Asks (decide (m + 1 = m + 1)) (Asks (isTree S (AV.fptr (cellsOf (topF l) (factF l) (kidsF l)) 0)) (Asks ((rowsFree fun i => bif Nat.blt i m then F i else List.take 29 (List.drop (0 + (i - m) * 29) [AV.int .i64 1, AV.int .i64 0, AV.int .i64 0, AV.int .i64 0, AV.int .i64 0, AV.int .i64 0, AV.int .i64 0, AV.int .i64 0, AV.int .i64 0, AV.int .i64 0, AV.int .i64 0, AV.int .i64 0, AV.int .i64 0, AV.int .i64 0, AV.int .i64 0, AV.int .i64 0, AV.int .i64 0, AV.int .i64 0, AV.int .i64 0, AV.int .i64 0, AV.int .i64 0, AV.int .i64 0, AV.int .i64 0, AV.int .i64 0, AV.int .i64 0, AV.int .i64 0, AV.int .i64 0, AV.str [], AV.str []])) && intsRows 3 nw f && intsRows 1 ng g && opsB nw (rowsX f) && decide (m + 1 + putN nw f (AV.fptr (cellsOf (topF l) (factF l) (kidsF l)) 0) ≤ 1000000)) (Asks
 (decide (m + 1 + putN nw f (AV.fptr (cellsOf (topF l) (factF l) (kidsF l)) 0) = m + 1 + putN nw f (AV.fptr (cellsOf (topF l) (factF l) (kidsF l)) 0))) (Asks (isTree S (AV.fptr (cellsOf (topF r) (factF r) (kidsF r)) 0)) (Asks (rowsFree (putR nw f (m + 1) (fun i => bif Nat.blt i m then F i else List.take 29 (List.drop (0 + (i - m) * 29) [AV.int .i64 1, AV.int .i64 0, AV.int .i64 0, AV.int .i64 0, AV.int .i64 0, AV.int .i64 0, AV.int .i64 0, AV.int .i64 0, AV.int .i64 0, AV.int .i64 0, AV.int .i64 0, AV.int .i64 0, AV.int .i64 0, AV.int .i64 0, AV.int .i64 0, AV.int .i64 0, AV.int .i64 0, AV.int .i64 0, AV.int .i64 0, AV.int .i64 0, AV.int .i64 0, AV.int .i64 0, AV.int .i64 0, AV.int .i64 0, AV.int .i64 0, AV.int .i64 0, AV.int .i64 0, AV.str [], AV.str []])) (AV.fptr (cellsOf (topF l) (factF l) (kidsF l)) 0)) && intsRows 3 nw f && intsRows 1 ng g && opsB nw (rowsX f) && decide (m + 1 +
 putN nw f (AV.fptr (cellsOf (topF l) (factF l) (kidsF l)) 0) + putN nw f (AV.fptr (cellsOf (topF r) (factF r) (kidsF r)) 0) ≤ 1000000)) (EqN (m + 1 + putN nw f (AV.fptr (cellsOf (topF l) (factF l) (kidsF l)) 0) + putN nw f (AV.fptr (cellsOf (topF r) (factF r) (kidsF r)) 0)) M (RowsLe (m + 1 + putN nw f (AV.fptr (cellsOf (topF l) (factF l) (kidsF l)) 0) + putN nw f (AV.fptr (cellsOf (topF r) (factF r) (kidsF r)) 0)) (putR nw f (m + 1 + putN nw f (AV.fptr (cellsOf (topF l) (factF l) (kidsF l)) 0)) (putR nw f (m + 1) (fun i => bif Nat.blt i m then F i else List.take 29 (List.drop (0 + (i - m) * 29) [AV.int .i64 1, AV.int .i64 0, AV.int .i64 0, AV.int .i64 0, AV.int .i64 0, AV.int .i64 0, AV.int .i64 0, AV.int .i64 0, AV.int .i64 0, AV.int .i64 0, AV.int .i64 0, AV.int .i64 0, AV.int .i64 0, AV.int .i64 0, AV.int .i64 0, AV.int .i64 0, AV.int .i64 0, AV.int .i64 0, AV.int .i64 0, AV.int .i64
 0, AV.int .i64 0, AV.int .i64 0, AV.int .i64 0, AV.int .i64 0, AV.int .i64 0, AV.int .i64 0, AV.int .i64 0, AV.str [], AV.str []])) (AV.fptr (cellsOf (topF l) (factF l) (kidsF l)) 0)) (AV.fptr (cellsOf (topF r) (factF r) (kidsF r)) 0)) F' ∧ EqI n n (EqN (m + 1 + putN nw f (AV.fptr (cellsOf (topF l) (factF l) (kidsF l)) 0) + putN nw f (AV.fptr (cellsOf (topF r) (factF r) (kidsF r)) 0)) M (EqN nw nw (RowsLe nw f f ∧ EqN ng ng (RowsLe ng g g ∧ EqI a a (EqI fl fl (EqB nu nu (EqB de de (EqI top top True)))))))))))))))))))) := by kernel_rfl
theorem put_node0 (l r : Tree) (S : Tree → Prop) (hS : ∀ t, S t → Puts t) (nw : Nat) (f : Nat → List AV) (ng : Nat) (g : Nat → List AV) (a fl : Int) (nu de : List UInt8) (top n : Int) (M : Nat) (F' : Nat → List AV) : (kbH [kExcl, kPutT S hS] 33 (argsN l r) (putH0 ⟨nw, f, ng, g, a, fl, nu, de, top⟩ n) (putH ⟨nw, f, ng, g, a, fl, nu, de, top⟩ n M F')) = (Asks (intsRows 3 nw f && intsRows 1 ng g) (Asks (opsB nw (rowsX f) && true && true) (Cond (exclF nw (rowsX f) [AV.int .i64 (Node.lo (joinF (topF l) (topF r)) 0), AV.int .i64 (Node.lo (joinF (topF l) (topF r)) 1), AV.int .i64 (Node.lo (joinF (topF l) (topF r)) 2), AV.int .i64 (Node.lo (joinF (topF l) (topF r)) 3), AV.int .i64 (Node.lo (joinF (topF l) (topF r)) 4), AV.int .i64 (Node.lo (joinF (topF l) (topF r)) 5), AV.int .i64 (Node.lo (joinF (topF l) (topF r)) 6), AV.int .i64 (Node.lo (joinF (topF l) (topF r)) 7), AV.int .i64 (Node.hi (joinF
 (topF l) (topF r)) 0), AV.int .i64 (Node.hi (joinF (topF l) (topF r)) 1), AV.int .i64 (Node.hi (joinF (topF l) (topF r)) 2), AV.int .i64 (Node.hi (joinF (topF l) (topF r)) 3), AV.int .i64 (Node.hi (joinF (topF l) (topF r)) 4), AV.int .i64 (Node.hi (joinF (topF l) (topF r)) 5), AV.int .i64 (Node.hi (joinF (topF l) (topF r)) 6), AV.int .i64 (Node.hi (joinF (topF l) (topF r)) 7)]) (EqN 29 (M * 29) (RowsLe M (cutRow [AV.int .i64 3, AV.int .i64 0, AV.int .i64 0, AV.int .i64 0, AV.int .i64 0, AV.int .i64 0, AV.int .i64 0, AV.int .i64 0, AV.int .i64 0, AV.int .i64 0, AV.int .i64 0, AV.int .i64 (Node.lo (joinF (topF l) (topF r)) 0), AV.int .i64 (Node.lo (joinF (topF l) (topF r)) 1), AV.int .i64 (Node.lo (joinF (topF l) (topF r)) 2), AV.int .i64 (Node.lo (joinF (topF l) (topF r)) 3), AV.int .i64 (Node.lo (joinF (topF l) (topF r)) 4), AV.int .i64 (Node.lo (joinF (topF l) (topF r)) 5), AV.int .i64
 (Node.lo (joinF (topF l) (topF r)) 6), AV.int .i64 (Node.lo (joinF (topF l) (topF r)) 7), AV.int .i64 (Node.hi (joinF (topF l) (topF r)) 0), AV.int .i64 (Node.hi (joinF (topF l) (topF r)) 1), AV.int .i64 (Node.hi (joinF (topF l) (topF r)) 2), AV.int .i64 (Node.hi (joinF (topF l) (topF r)) 3), AV.int .i64 (Node.hi (joinF (topF l) (topF r)) 4), AV.int .i64 (Node.hi (joinF (topF l) (topF r)) 5), AV.int .i64 (Node.hi (joinF (topF l) (topF r)) 6), AV.int .i64 (Node.hi (joinF (topF l) (topF r)) 7), AV.str (Node.l (joinF (topF l) (topF r))), AV.str (Node.r (joinF (topF l) (topF r)))] 29) F' ∧ EqI n n (EqN 1 M (EqN nw nw (RowsLe nw f f ∧ EqN ng ng (RowsLe ng g g ∧ EqI a a (EqI fl fl (EqB nu nu (EqB de de (EqI top top True)))))))))) (Asks (isTree S (AV.fptr (cellsOf (topF l) (factF l) (kidsF l)) 0)) (Asks (rowsFree (cutRow [AV.int .i64 1, AV.int .i64 0, AV.int .i64 0, AV.int .i64 0, AV.int .i64
 0, AV.int .i64 0, AV.int .i64 0, AV.int .i64 0, AV.int .i64 0, AV.int .i64 0, AV.int .i64 0, AV.int .i64 0, AV.int .i64 0, AV.int .i64 0, AV.int .i64 0, AV.int .i64 0, AV.int .i64 0, AV.int .i64 0, AV.int .i64 0, AV.int .i64 0, AV.int .i64 0, AV.int .i64 0, AV.int .i64 0, AV.int .i64 0, AV.int .i64 0, AV.int .i64 0, AV.int .i64 0, AV.str [], AV.str []] 29) && intsRows 3 nw f && intsRows 1 ng g && opsB nw (rowsX f) && decide (1 + putN nw f (AV.fptr (cellsOf (topF l) (factF l) (kidsF l)) 0) ≤ 1000000)) (Asks (decide (1 + putN nw f (AV.fptr (cellsOf (topF l) (factF l) (kidsF l)) 0) = 1 + putN nw f (AV.fptr (cellsOf (topF l) (factF l) (kidsF l)) 0))) (Asks (isTree S (AV.fptr (cellsOf (topF r) (factF r) (kidsF r)) 0)) (Asks (rowsFree (putR nw f 1 (cutRow [AV.int .i64 1, AV.int .i64 0, AV.int .i64 0, AV.int .i64 0, AV.int .i64 0, AV.int .i64 0, AV.int .i64 0, AV.int .i64 0, AV.int .i64 0,
 AV.int .i64 0, AV.int .i64 0, AV.int .i64 0, AV.int .i64 0, AV.int .i64 0, AV.int .i64 0, AV.int .i64 0, AV.int .i64 0, AV.int .i64 0, AV.int .i64 0, AV.int .i64 0, AV.int .i64 0, AV.int .i64 0, AV.int .i64 0, AV.int .i64 0, AV.int .i64 0, AV.int .i64 0, AV.int .i64 0, AV.str [], AV.str []] 29) (AV.fptr (cellsOf (topF l) (factF l) (kidsF l)) 0)) && intsRows 3 nw f && intsRows 1 ng g && opsB nw (rowsX f) && decide (1 + putN nw f (AV.fptr (cellsOf (topF l) (factF l) (kidsF l)) 0) + putN nw f (AV.fptr (cellsOf (topF r) (factF r) (kidsF r)) 0) ≤ 1000000)) (EqN (1 + putN nw f (AV.fptr (cellsOf (topF l) (factF l) (kidsF l)) 0) + putN nw f (AV.fptr (cellsOf (topF r) (factF r) (kidsF r)) 0)) M (RowsLe (1 + putN nw f (AV.fptr (cellsOf (topF l) (factF l) (kidsF l)) 0) + putN nw f (AV.fptr (cellsOf (topF r) (factF r) (kidsF r)) 0)) (putR nw f (1 + putN nw f (AV.fptr (cellsOf (topF l) (factF l)
 (kidsF l)) 0)) (putR nw f 1 (cutRow [AV.int .i64 1, AV.int .i64 0, AV.int .i64 0, AV.int .i64 0, AV.int .i64 0, AV.int .i64 0, AV.int .i64 0, AV.int .i64 0, AV.int .i64 0, AV.int .i64 0, AV.int .i64 0, AV.int .i64 0, AV.int .i64 0, AV.int .i64 0, AV.int .i64 0, AV.int .i64 0, AV.int .i64 0, AV.int .i64 0, AV.int .i64 0, AV.int .i64 0, AV.int .i64 0, AV.int .i64 0, AV.int .i64 0, AV.int .i64 0, AV.int .i64 0, AV.int .i64 0, AV.int .i64 0, AV.str [], AV.str []] 29) (AV.fptr (cellsOf (topF l) (factF l) (kidsF l)) 0)) (AV.fptr (cellsOf (topF r) (factF r) (kidsF r)) 0)) F' ∧ EqI n n (EqN (1 + putN nw f (AV.fptr (cellsOf (topF l) (factF l) (kidsF l)) 0) + putN nw f (AV.fptr (cellsOf (topF r) (factF r) (kidsF r)) 0)) M (EqN nw nw (RowsLe nw f f ∧ EqN ng ng (RowsLe ng g g ∧ EqI a a (EqI fl fl (EqB nu nu (EqB de de (EqI top top True)))))))))))))))))) := by kernel_rfl
end Go.Sx
end
section
set_option maxRecDepth 1000000
namespace Go.Sx
open Go
theorem free_rows {n:Nat} {g G:Nat→List AV} (hG:rowsFree G=true) (h : ∀ j,j<n→g j=G j): RowsLe n g G:=fun j hj σ=>by rw [h j hj];exact rowsFree_le hG σ j
theorem blt_true {a b:Nat} (h:a<b): Nat.blt a b=true:=(Nat.blt_eq ..).mpr h
theorem blt_false {a b:Nat} (h : ¬ a<b): Nat.blt a b=false:=by
 cases hb:Nat.blt a b with
 | false=>rfl
 | true=>exact absurd ((Nat.blt_eq ..).mp hb) h
theorem fRows3 {nw:Nat} {f:Nat→List AV} (h:intsRows 3 nw f=true): RowsLe nw f f:=fun i hi σ=>by
 rw [(intRow3 (intsRows_ok h hi)).1];exact qRow_le (rowsX f) σ i
theorem fRows1 {ng:Nat} {g:Nat→List AV} (h:intsRows 1 ng g=true): RowsLe ng g g:=fun i hi σ=>by
 rw [intRow1 (intsRows_ok h hi)];exact gRow_le (fun j=>getI (g j) 0) σ i
theorem push_at {m:Nat} {F:Nat→List AV} {r:List AV} {p:Piece} (hr:r=pieceAV p) (j:Nat) (hj:j<m+1):
  (bif Nat.blt j m then F j else List.take 29 (List.drop (0+(j-m)*29) r))=catR m F [p] j:=by
 unfold catR
 by_cases h:j<m
 ·rw [blt_true h];rfl
 ·have hj:j=m:=by omega
  rw [blt_false h,cond_false,cond_false,hj,Nat.sub_self,hr]
  rfl
theorem push_p {m k:Nat} {F:Nat→List AV} {r:List AV} {p:Piece} (hr:r=pieceAV p) (hF:rowsFree F=true) (hk:k=m+1): RowsLe k (fun j=>bif Nat.blt j m then F j else List.take 29 (List.drop (0+(j-m)*29) r)) (catR m F [p]):=
 free_rows (catR_free hF) fun j hj=>push_at hr j (by omega)
theorem putN_tree (nw:Nat) (f:Nat→List AV) (t:Tree): putN nw f (.fptr (cellsOf (topF t) (factF t) (kidsF t)) 0)=(piecesT (exN nw (rowsX f)) t).length:=by
 show (piecesT (exN nw (rowsX f)) (treeOf (treeAV t))).length=_
 rw [treeOf_tree]
theorem putR_tree (nw:Nat) (f:Nat→List AV) (m:Nat) (F:Nat→List AV) (t:Tree): putR nw f m F (.fptr (cellsOf (topF t) (factF t) (kidsF t)) 0)=catR m F (piecesT (exN nw (rowsX f)) t):=by
 show catR m F (piecesT (exN nw (rowsX f)) (treeOf (treeAV t)))=_
 rw [treeOf_tree]
theorem cat_cat {m:Nat} {F F1:Nat→List AV} {p:Piece} {pl pr:List Piece} (h : ∀ j,j<m+1→F1 j=catR m F [p] j) (j:Nat) (hj:j<m+1+pl.length+pr.length):
  catR (m+1+pl.length) (catR (m+1) F1 pl) pr j=catR m F (p::(pl++pr)) j:=by
 by_cases h1:j<m+1
 ·have e:catR (m+1+pl.length) (catR (m+1) F1 pl) pr j=F1 j:=by
   unfold catR;rw [blt_true (by omega),cond_true,blt_true h1,cond_true]
  rw [e,h j h1]
  unfold catR
  by_cases h2:j<m
  ·rw [blt_true h2];rfl
  ·have:j=m:=by omega
   rw [blt_false h2,cond_false,cond_false,this,Nat.sub_self];rfl
 ·have e2:catR m F (p::(pl++pr)) j=pieceAV ((pl++pr).getD (j-(m+1)) openP):=by
   unfold catR
   rw [blt_false (by omega),cond_false]
   have:j-m=(j-(m+1))+1:=by omega
   rw [this];rfl
  rw [e2]
  by_cases h3:j<m+1+pl.length
  ·have:catR (m+1+pl.length) (catR (m+1) F1 pl) pr j=pieceAV (pl.getD (j-(m+1)) openP):=by
    unfold catR;rw [blt_true h3,cond_true,blt_false h1,cond_false]
   rw [this,List.getD_eq_getElem?_getD,List.getD_eq_getElem?_getD,List.getElem?_append_left (by omega)]
  ·have:catR (m+1+pl.length) (catR (m+1) F1 pl) pr j=pieceAV (pr.getD (j-(m+1+pl.length)) openP):=by
    unfold catR;rw [blt_false h3,cond_false]
   rw [this,List.getD_eq_getElem?_getD,List.getD_eq_getElem?_getD,List.getElem?_append_right (by omega)]
   congr 3;omega
theorem qcOk_ok {nw ng:Nat} {f g:Nat→List AV} {a fl top:Int} {nu de:List UInt8} (h:qcOk ⟨nw,f,ng,g,a,fl,nu,de,top⟩=true): intsRows 3 nw f=true∧intsRows 1 ng g=true∧opsB nw (rowsX f)=true:=by
 unfold qcOk at h
 rw [Bool.and_eq_true,Bool.and_eq_true] at h
 exact ⟨h.1.1,h.1.2,h.2⟩
theorem puts_leaf (x:Fact): Puts (.leaf x):=by
 intro k n m F hk hM hF
 obtain ⟨nw,f,ng,g,a,fl,nu,de,top⟩:=k
 obtain ⟨h1,h2,h3⟩:=qcOk_ok hk
 have ex:exN nw (rowsX f) (leafF x)=exclF nw (rowsX f) (coverC (leafF x).lo (leafF x).hi):=rfl
 have hs:(decide (m≤m)&&true&&true&&decide ((m+1)*248≤140737488355328)&&true)=true:=by simp only [Bool.and_eq_true,Bool.and_true,decide_eq_true_eq];omega
 have tail:EqI n n (EqN (m+1) (m+1) (EqN nw nw (RowsLe nw f f∧EqN ng ng (RowsLe ng g g∧EqI a a (EqI fl fl (EqB nu nu (EqB de de (EqI top top True)))))))):=EqI.mk rfl (EqN.mk rfl (EqN.mk rfl ⟨fRows3 h1,EqN.mk rfl ⟨fRows1 h2,EqI.mk rfl (EqI.mk rfl (EqB.mk rfl (EqB.mk rfl (EqI.mk rfl trivial))))⟩⟩))
 have both : ∀ p,piecesT (exN nw (rowsX f)) (.leaf x)=[p]→(exN nw (rowsX f) (leafF x)=true∧p=closedP (leafF x))∨(exN nw (rowsX f) (leafF x)=false∧p=factP x):=fun p hp=>by
  unfold piecesT at hp
  cases hb:exN nw (rowsX f) (leafF x) with
  | true=>rw [hb] at hp;simp only [List.cons.injEq,and_true] at hp;exact .inl ⟨rfl,hp.symm⟩
  | false=>rw [hb] at hp;simp only [List.cons.injEq,and_true] at hp;exact .inr ⟨rfl,hp.symm⟩
 have one : ∃ p,piecesT (exN nw (rowsX f)) (.leaf x)=[p]:=by
  unfold piecesT
  cases exN nw (rowsX f) (leafF x) with
  | true=>exact ⟨_,rfl⟩
  | false=>exact ⟨_,rfl⟩
 obtain ⟨p,hp⟩:=one
 have hb:=both p hp
 rw [hp] at hM⊢
 simp only [List.length_singleton] at hM⊢
 refine CallGives.of_heap hII [kExcl] (lamT_ok PP II []) 1000 ?_
 refine (put_leaf x nw f ng g a fl nu de top n m (m+1) F (catR m F [p])).mpr ?_
 refine Asks.mk' _ _ (by rw [h1,h2];rfl) (Asks.mk' _ _ (by rw [h3];rfl) ?_)
 refine Cond.mk (fun h=>Asks.mk' _ _ hs (EqN.mk rfl ⟨?_,tail⟩)) fun h=>Asks.mk' _ _ hs (EqN.mk rfl ⟨?_,tail⟩)
 ·have h:exN nw (rowsX f) (leafF x)=true:=h
  rcases hb with ⟨_,rfl⟩ | ⟨hb,_⟩
  ·exact push_p rfl hF rfl
  ·rw [h] at hb;cases hb
 ·have h:exN nw (rowsX f) (leafF x)=false:=h
  rcases hb with ⟨hb,_⟩ | ⟨_,rfl⟩
  ·rw [h] at hb;cases hb
  ·exact push_p rfl hF rfl
theorem row_free (σ:Nat→Nat) (i:Nat): AVs.ren σ (List.take 29 (List.drop (0+i*29) (pieceAV openP)))=List.take 29 (List.drop (0+i*29) (pieceAV openP))∧AVs.le σ (List.take 29 (List.drop (0+i*29) (pieceAV openP))) (List.take 29 (List.drop (0+i*29) (pieceAV openP))):=by
 cases i with
 | zero=>exact ⟨piece_free openP σ,piece_le openP σ⟩
 | succ i=>
  have:List.drop (0+(i+1)*29) (pieceAV openP)=[]:=List.drop_eq_nil_of_le (by show 29≤_;omega)
  rw [this]
  exact ⟨rfl,trivial⟩
def Two (l r:Tree) (t:Tree): Prop:=t=l∨t=r
theorem pieces_node {ex:Node→Bool} {l r:Tree}: (ex (joinF (topF l) (topF r))=true∧piecesT ex (.node l r)=[closedP (joinF (topF l) (topF r))])∨(ex (joinF (topF l) (topF r))=false∧piecesT ex (.node l r)=openP::(piecesT ex l++piecesT ex r)):=by
 unfold piecesT
 cases h:ex (joinF (topF l) (topF r)) with
 | true=>exact .inl ⟨rfl,rfl⟩
 | false=>exact .inr ⟨rfl,by cases l<;>cases r<;>simp only [piecesT]⟩
theorem puts_node {l r:Tree} (hl:Puts l) (hr:Puts r): Puts (.node l r):=by
 intro k n m F hk hM hF
 obtain ⟨nw,f,ng,g,a,fl,nu,de,top⟩:=k
 obtain ⟨h1,h2,h3⟩:=qcOk_ok hk
 simp only at hM⊢
 have hs:m≤1000000→(decide (m≤m)&&true&&true&&decide ((m+1)*248≤140737488355328)&&true)=true:=fun h=>by simp only [Bool.and_eq_true,Bool.and_true,decide_eq_true_eq];omega
 have tail : ∀ {M:Nat},EqI n n (EqN M M (EqN nw nw (RowsLe nw f f∧EqN ng ng (RowsLe ng g g∧EqI a a (EqI fl fl (EqB nu nu (EqB de de (EqI top top True)))))))):=EqI.mk rfl (EqN.mk rfl (EqN.mk rfl ⟨fRows3 h1,EqN.mk rfl ⟨fRows1 h2,EqI.mk rfl (EqI.mk rfl (EqB.mk rfl (EqB.mk rfl (EqI.mk rfl trivial))))⟩⟩))
 have hS : ∀ t,Two l r t→Puts t:=fun t ht=>by rcases ht with rfl | rfl;exact hl;exact hr
 refine CallGives.of_heap hII [kExcl,kPutT (Two l r) hS] (lamT_ok PP II []) 1000 ?_
 refine (put_node l r (Two l r) hS nw f ng g a fl nu de top n m _ F _).mpr ?_
 rw [putN_tree,putN_tree,putR_tree,putR_tree]
 have tl:isTree (Two l r) (.fptr (cellsOf (topF l) (factF l) (kidsF l)) 0)=true:=isTree_tree (t:=l) (.inl rfl)
 have tr:isTree (Two l r) (.fptr (cellsOf (topF r) (factF r) (kidsF r)) 0)=true:=isTree_tree (t:=r) (.inr rfl)
 rw [tl,tr]
 have hrow : ∀ j,j<m+1→(fun j=>bif Nat.blt j m then F j else List.take 29 (List.drop (0+(j-m)*29) (pieceAV openP))) j=catR m F [openP] j:=fun j hj=>push_at rfl j hj
 have free1:rowsFree (fun j=>bif Nat.blt j m then F j else List.take 29 (List.drop (0+(j-m)*29) (pieceAV openP)))=true:=by
  refine rowsFree_mk fun σ j=>?_
  show AVs.ren σ (bif Nat.blt j m then F j else _)=(bif Nat.blt j m then F j else _)∧AVs.le σ (bif Nat.blt j m then F j else _) (bif Nat.blt j m then F j else _)
  cases Nat.blt j m with
  | true=>exact ⟨rowsFree_ok hF σ j,rowsFree_le hF σ j⟩
  | false=>exact row_free σ (j-m)
 rcases pieces_node (ex:=exN nw (rowsX f)) (l:=l) (r:=r) with ⟨hb,hp⟩ | ⟨hb,hp⟩
 ·rw [hp] at hM⊢
  simp only [List.length_singleton] at hM⊢
  refine Asks.mk' _ _ (by rw [h1,h2];rfl) (Asks.mk' _ _ (by rw [h3];rfl) ?_)
  refine Cond.mk (fun h=>Asks.mk' _ _ (hs (by omega)) (EqN.mk rfl ⟨push_p rfl hF rfl,tail⟩)) fun h=>?_
  have h:exN nw (rowsX f) (joinF (topF l) (topF r))=false:=h
  rw [h] at hb;cases hb
 ·rw [hp] at hM⊢
  simp only [List.length_cons,List.length_append] at hM⊢
  generalize hpl:piecesT (exN nw (rowsX f)) l=pl at*
  generalize hpr:piecesT (exN nw (rowsX f)) r=pr at*
  have eM:m+1+pl.length+pr.length=m+(pl.length+pr.length+1):=by omega
  refine Asks.mk' _ _ (by rw [h1,h2];rfl) (Asks.mk' _ _ (by rw [h3];rfl) ?_)
  refine Cond.mk (fun h=>?_) fun h=>?_
  ·have h:exN nw (rowsX f) (joinF (topF l) (topF r))=true:=h
   rw [h] at hb;cases hb
  ·refine Asks.mk' _ _ (hs (by omega)) (Asks.mk' _ _ (by simp) (Asks.mk' _ _ rfl (Asks.mk' _ _ ?_ (Asks.mk' _ _ (by simp) (Asks.mk' _ _ rfl (Asks.mk' _ _ ?_ ?_))))))
   ·rw [h1,h2,h3]
    simp only [Bool.and_true,Bool.and_eq_true,decide_eq_true_eq]
    exact ⟨free1,by omega⟩
   ·rw [h1,h2,h3]
    simp only [Bool.and_true,Bool.and_eq_true,decide_eq_true_eq]
    exact ⟨catR_free free1,by omega⟩
   ·refine EqN.mk eM ⟨free_rows (catR_free hF) fun j hj=>cat_cat hrow j hj,?_⟩
    rw [eM]
    exact tail
end Go.Sx
end
section
set_option maxRecDepth 1000000
namespace Go.Sx
open Go
theorem puts_all : ∀ t,Puts t
 | .leaf x=>puts_leaf x
 | .node l r=>puts_node (puts_all l) (puts_all r)
theorem none_free:rowsFree (fun _=>[])=true:=rowsFree_mk fun _ _=>⟨rfl,trivial⟩
theorem cut_at {p:Piece} {F:Nat→List AV} (j:Nat) (hj:j<1): cutRow (pieceAV p) 29 j=catR 0 F [p] j:=by
 have hj:j=0:=by omega
 subst hj
 rfl
theorem cut_p {r:List AV} {p:Piece} (hr:r=pieceAV p): RowsLe 1 (cutRow r 29) (catR 0 (fun _=>[]) [p]):=by
 subst hr
 exact free_rows (catR_free none_free) fun j hj=>cut_at j hj
theorem puts_leaf0 (x:Fact): Puts0 (.leaf x):=by
 intro k n hk hM
 obtain ⟨nw,f,ng,g,a,fl,nu,de,top⟩:=k
 obtain ⟨h1,h2,h3⟩:=qcOk_ok hk
 have tail:EqI n n (EqN 1 1 (EqN nw nw (RowsLe nw f f∧EqN ng ng (RowsLe ng g g∧EqI a a (EqI fl fl (EqB nu nu (EqB de de (EqI top top True)))))))):=EqI.mk rfl (EqN.mk rfl (EqN.mk rfl ⟨fRows3 h1,EqN.mk rfl ⟨fRows1 h2,EqI.mk rfl (EqI.mk rfl (EqB.mk rfl (EqB.mk rfl (EqI.mk rfl trivial))))⟩⟩))
 have both : ∀ p,piecesT (exN nw (rowsX f)) (.leaf x)=[p]→(exN nw (rowsX f) (leafF x)=true∧p=closedP (leafF x))∨(exN nw (rowsX f) (leafF x)=false∧p=factP x):=fun p hp=>by
  unfold piecesT at hp
  cases hb:exN nw (rowsX f) (leafF x) with
  | true=>rw [hb] at hp;simp only [List.cons.injEq,and_true] at hp;exact .inl ⟨rfl,hp.symm⟩
  | false=>rw [hb] at hp;simp only [List.cons.injEq,and_true] at hp;exact .inr ⟨rfl,hp.symm⟩
 have one : ∃ p,piecesT (exN nw (rowsX f)) (.leaf x)=[p]:=by
  unfold piecesT
  cases exN nw (rowsX f) (leafF x) with
  | true=>exact ⟨_,rfl⟩
  | false=>exact ⟨_,rfl⟩
 obtain ⟨p,hp⟩:=one
 have hb:=both p hp
 rw [hp] at hM⊢
 simp only [List.length_singleton] at hM⊢
 refine CallGives.of_heap hII [kExcl] (lamT_ok PP II []) 1000 ?_
 refine (put_leaf0 x nw f ng g a fl nu de top n 1 (catR 0 (fun _=>[]) [p])).mpr ?_
 refine Asks.mk' _ _ (by rw [h1,h2];rfl) (Asks.mk' _ _ (by rw [h3];rfl) ?_)
 refine Cond.mk (fun h=>EqN.mk rfl ⟨?_,tail⟩) fun h=>EqN.mk rfl ⟨?_,tail⟩
 ·have h:exN nw (rowsX f) (leafF x)=true:=h
  rcases hb with ⟨_,rfl⟩ | ⟨hb,_⟩
  ·exact cut_p rfl
  ·rw [h] at hb;cases hb
 ·have h:exN nw (rowsX f) (leafF x)=false:=h
  rcases hb with ⟨hb,_⟩ | ⟨_,rfl⟩
  ·rw [h] at hb;cases hb
  ·exact cut_p rfl
theorem cut_free (σ:Nat→Nat) (i:Nat): AVs.ren σ (cutRow (pieceAV openP) 29 i)=cutRow (pieceAV openP) 29 i∧AVs.le σ (cutRow (pieceAV openP) 29 i) (cutRow (pieceAV openP) 29 i):=by
 cases i with
 | zero=>exact ⟨piece_free openP σ,piece_le openP σ⟩
 | succ i=>
  have:cutRow (pieceAV openP) 29 (i+1)=[]:=by
   unfold cutRow
   rw [List.drop_eq_nil_of_le (by show 29≤_;omega)];rfl
  rw [this]
  exact ⟨rfl,trivial⟩
theorem puts_node0 (l r:Tree): Puts0 (.node l r):=by
 intro k n hk hM
 obtain ⟨nw,f,ng,g,a,fl,nu,de,top⟩:=k
 obtain ⟨h1,h2,h3⟩:=qcOk_ok hk
 simp only at hM⊢
 have tail : ∀ {M:Nat},EqI n n (EqN M M (EqN nw nw (RowsLe nw f f∧EqN ng ng (RowsLe ng g g∧EqI a a (EqI fl fl (EqB nu nu (EqB de de (EqI top top True)))))))):=EqI.mk rfl (EqN.mk rfl (EqN.mk rfl ⟨fRows3 h1,EqN.mk rfl ⟨fRows1 h2,EqI.mk rfl (EqI.mk rfl (EqB.mk rfl (EqB.mk rfl (EqI.mk rfl trivial))))⟩⟩))
 have hS : ∀ t,Two l r t→Puts t:=fun t _=>puts_all t
 refine CallGives.of_heap hII [kExcl,kPutT (Two l r) hS] (lamT_ok PP II []) 1000 ?_
 refine (put_node0 l r (Two l r) hS nw f ng g a fl nu de top n _ _).mpr ?_
 rw [putN_tree,putN_tree,putR_tree,putR_tree]
 have tl:isTree (Two l r) (.fptr (cellsOf (topF l) (factF l) (kidsF l)) 0)=true:=isTree_tree (t:=l) (.inl rfl)
 have tr:isTree (Two l r) (.fptr (cellsOf (topF r) (factF r) (kidsF r)) 0)=true:=isTree_tree (t:=r) (.inr rfl)
 rw [tl,tr]
 have free1:rowsFree (cutRow (pieceAV openP) 29)=true:=rowsFree_mk fun σ j=>cut_free σ j
 rcases pieces_node (ex:=exN nw (rowsX f)) (l:=l) (r:=r) with ⟨hb,hp⟩ | ⟨hb,hp⟩
 ·rw [hp] at hM⊢
  simp only [List.length_singleton] at hM⊢
  refine Asks.mk' _ _ (by rw [h1,h2];rfl) (Asks.mk' _ _ (by rw [h3];rfl) ?_)
  refine Cond.mk (fun h=>EqN.mk rfl ⟨cut_p rfl,tail⟩) fun h=>?_
  have h:exN nw (rowsX f) (joinF (topF l) (topF r))=false:=h
  rw [h] at hb;cases hb
 ·rw [hp] at hM⊢
  simp only [List.length_cons,List.length_append] at hM⊢
  generalize hpl:piecesT (exN nw (rowsX f)) l=pl at*
  generalize hpr:piecesT (exN nw (rowsX f)) r=pr at*
  have eM:1+pl.length+pr.length=pl.length+pr.length+1:=by omega
  refine Asks.mk' _ _ (by rw [h1,h2];rfl) (Asks.mk' _ _ (by rw [h3];rfl) ?_)
  refine Cond.mk (fun h=>?_) fun h=>?_
  ·have h:exN nw (rowsX f) (joinF (topF l) (topF r))=true:=h
   rw [h] at hb;cases hb
  ·refine Asks.mk' _ _ rfl (Asks.mk' _ _ ?_ (Asks.mk' _ _ (by simp) (Asks.mk' _ _ rfl (Asks.mk' _ _ ?_ ?_))))
   ·rw [h1,h2,h3]
    simp only [Bool.and_true,Bool.and_eq_true,decide_eq_true_eq]
    exact ⟨free1,by omega⟩
   ·rw [h1,h2,h3]
    simp only [Bool.and_true,Bool.and_eq_true,decide_eq_true_eq]
    exact ⟨catR_free free1,by omega⟩
   ·refine EqN.mk eM ⟨free_rows (catR_free none_free) fun j hj=>?_,?_⟩
    ·have:=cat_cat (m:=0) (F:=fun _=>[]) (F1:=cutRow (pieceAV openP) 29) (p:=openP) (pl:=pl) (pr:=pr) (fun j hj=>cut_at j (by omega)) j (by omega)
     rw [Nat.zero_add] at this
     exact this
    ·rw [eM]
     exact tail
theorem puts0_all : ∀ t,Puts0 t
 | .leaf x=>puts_leaf0 x
 | .node l r=>puts_node0 l r
end Go.Sx
end
section
set_option maxRecDepth 1000000
namespace Go.Sx
open Go
theorem putH0_get (k:QC) (n:Int) (l:Nat): (putH0 k n).get l=if l=14 then .cells [.fn 33 [] [.ptr 12 0 0 0,.ptr 13 0 0 0,.ptr 14 0 0 0]] (.ty 85) else if l=13 then .cells [.int .i64 n,.nilSlice] (.ty 38) else if l=12 then .cells (qcAV k) (.ty 34) else .dead:=by
 simp only [putH0,AH.get,Tr.ofList,Tr.get_set,Tr.get_e]
 by_cases h2:l=14
 ·simp [h2]
 ·by_cases h3:l=13
  ·simp [h3]
  ·by_cases h4:l=12<;>simp [h2,h3,h4]
def labsOk0 (n lq lo lp lq1 lo1 lp1:Nat): Bool:=Nat.beq lq lq1&&Nat.beq lo lo1&&Nat.beq lp lp1&&Nat.ble 12 lq&&Nat.ble 12 lo&&Nat.ble 12 lp&&Nat.blt lq n&&Nat.blt lo n&&Nat.blt lp n && !Nat.beq lq lo && !Nat.beq lq lp && !Nat.beq lo lp
theorem put_lift0 (t:Tree) (k:QC) (n:Int) (h1:qcOk k=true) (h2:(piecesT (exN k.nw (rowsX k.f)) t).length≤1000000) {H:AH} {lq lo lp:Nat} (hlab:labsOk0 H.n lq lo lp lq lo lp=true)
  (gq:H.get lq= .cells (qcAV k) (.ty 34)) (go:H.get lo= .cells [.int .i64 n,.nilSlice] (.ty 38)) (gp:H.get lp= .cells [.fn 33 [] [.ptr lq 0 0 0,.ptr lo 0 0 0,.ptr lp 0 0 0]] (.ty 85)):
  CallGives PP II 33 [treeAV t,.ptr lq 0 0 0,.ptr lo 0 0 0,.ptr lp 0 0 0] H (.ret (.tup []) ((H.set lo (.cells [.int .i64 n,.own H.n (piecesT (exN k.nw (rowsX k.f)) t).length 29] (.ty 38))).new (.rows (piecesT (exN k.nw (rowsX k.f)) t).length 29 (catR 0 (fun _=>[]) (piecesT (exN k.nw (rowsX k.f)) t)) (.ty 48)))):=by
 have base:=puts0_all t k n h1 h2
 have free:=catR_free (m:=0) (l:=piecesT (exN k.nw (rowsX k.f)) t) none_free
 generalize (piecesT (exN k.nw (rowsX k.f)) t).length=M at*
 generalize catR 0 (fun _=>[]) (piecesT (exN k.nw (rowsX k.f)) t)=F' at*
 simp only [labsOk0,Bool.and_eq_true] at hlab
 obtain ⟨⟨⟨⟨⟨⟨⟨⟨⟨⟨⟨b1,b2⟩,b3⟩,b4⟩,b5⟩,b6⟩,b8⟩,b9⟩,b10⟩,b12⟩,b13⟩,b15⟩:=hlab
 have b4:=Nat.le_of_ble_eq_true b4
 have b5:=Nat.le_of_ble_eq_true b5
 have b6:=Nat.le_of_ble_eq_true b6
 rw [Nat.blt_eq] at b8 b9 b10
 have b12:=nbeq b12
 have b13:=nbeq b13
 have b15:=nbeq b15
 have q4 : ∀ (q l:Nat),[lq,lo,lp][q]? =some l→(q=0∧l=lq)∨(q=1∧l=lo)∨(q=2∧l=lp):=fun q l h=>by
  match q,h with
  | 0,h=>simp at h;omega
  | 1,h=>simp at h;omega
  | 2,h=>simp at h;omega
  | q+3,h=>simp at h
 refine base.liftL (ls:=[lq,lo,lp]) (H:=H) rfl (fun i hi=>?_) (fun i hi=>?_) (fun q l h=>?_) (fun q l h hd=>?_) (fun q q' l h h' _ _=>?_) ?_ (fun q l h hd=>?_) (fun hlow j=>?_) (fun l hl hk=>?_) rfl rfl ?_
 ·have hi:i<12:=hi
  rw [putH0_get,if_neg (by omega),if_neg (by omega),if_neg (by omega)]
 ·have hi:15≤i:=hi
  rw [putH0_get,if_neg (by omega),if_neg (by omega),if_neg (by omega)]
 ·show 12≤l∧l<H.n
  have:=q4 q l h;omega
 ·rcases q4 q l h with ⟨rfl,rfl⟩ | ⟨rfl,rfl⟩ | ⟨rfl,rfl⟩
  ·rw [gq];rfl
  ·rw [go];rfl
  ·rw [gp];rfl
 ·have a:=q4 q l h
  have b:=q4 q' l h'
  omega
 ·show H.n+1=H.n+(16-15);omega
 ·rcases q4 q l h with ⟨rfl,rfl⟩ | ⟨rfl,rfl⟩ | ⟨rfl,rfl⟩
  ·rw [AH.get_new_ne _ _ (by show _≠H.n;omega),AH.get_set_ne _ _ (by omega),gq];rfl
  ·rw [AH.get_new_ne _ _ (by show _≠H.n;omega),AH.get_set_same]
   show _=ABlk.cells [.int .i64 n,.own (labT 12 [lq,l,lp] H.n 15) M 29] (.ty 38)
   rfl
  ·rw [AH.get_new_ne _ _ (by show _≠H.n;omega),AH.get_set_ne _ _ (by omega),gp];rfl
 ·show _=((putH k n M F').get (12+3+j)).ren (labT 12 [lq,lo,lp] H.n)
  rw [putH_get]
  by_cases hj:j=0
  ·subst hj
   rw [AH.get_new]
   refine (if_pos (show H.n+0=H.n from rfl)).trans ?_
   rw [if_pos rfl]
   show _=ABlk.rows M 29 (fun i=>AVs.ren _ (F' i)) (.ty 48)
   congr 1
   funext i
   exact (rowsFree_ok free _ i).symm
  ·rw [AH.get_new_ne _ _ (by show _≠H.n;omega),AH.get_set_ne _ _ (by omega),hlow _ (by omega)]
   rw [if_neg (by omega),if_neg (by omega),if_neg (by omega),if_neg (by omega)]
   rfl
 ·have h0:l≠lo:=fun e=>by subst e;have:=hk 1 rfl;rw [putH0_get] at this;cases this
  rw [AH.get_new_ne _ _ (by show _≠H.n;omega),AH.get_set_ne _ _ (by omega)]
 ·show 12≤H.n;omega
noncomputable def putSpec0 {R:Type} (X:RI R): Spec R:=fun args H kn _=>match args with
 | [a,.ptr lq 0 0 0,.ptr lo 0 0 0,.ptr lp 0 0 0]=>match H.get lq,H.get lo,H.get lp with
  | .cells [.fslice nw 3 f,.fslice ng 1 g,.int .i64 _,.int .i64 _,.str _,.str _,.int .i64 _] (.ty 34),.cells [.int .i64 n,.nilSlice] (.ty 38),.cells [.fn 33 [] [.ptr lq1 0 0 0,.ptr lo1 0 0 0,.ptr lp1 0 0 0]] (.ty 85)=>
   X.assert (labsOk0 H.n lq lo lp lq1 lo1 lp1) (X.assert (isTree (fun _=>True) a) (X.assert (intsRows 3 nw f&&intsRows 1 ng g&&opsB nw (rowsX f)&&decide (putN nw f a≤1000000))
    (kn (.tup []) ((H.set lo (.cells [.int .i64 n,.own H.n (putN nw f a) 29] (.ty 38))).new (.rows (putN nw f a) 29 (putR nw f 0 (fun _=>[]) a) (.ty 48))))))
  | _,_,_=>X.fail
 | _=>X.fail
noncomputable def kPut0:Known PP II where
 f:=33
 spec X:=putSpec0 X
 ok X sem hX args H kn kp h:=by
  unfold putSpec0 at h
  split at h
  ·rename_i a lq lo lp
   split at h
   ·rename_i nw f ng g aa fl nu de top n lq1 lo1 lp1 gq go gp
    obtain ⟨h1,ha⟩:=hX.assert _ _ h
    obtain ⟨h2,hb⟩:=hX.assert _ _ ha
    obtain ⟨h3,hc⟩:=hX.assert _ _ hb
    clear h ha hb
    have hlab:=h1
    simp only [labsOk0,Bool.and_eq_true] at h1
    have e1:=Nat.eq_of_beq_eq_true h1.1.1.1.1.1.1.1.1.1.1.1
    have e2:=Nat.eq_of_beq_eq_true h1.1.1.1.1.1.1.1.1.1.1.2
    have e3:=Nat.eq_of_beq_eq_true h1.1.1.1.1.1.1.1.1.1.2
    subst e1 e2 e3
    simp only [Bool.and_eq_true,decide_eq_true_eq] at h3
    obtain ⟨⟨⟨h5,h6⟩,h7⟩,h8⟩:=h3
    obtain ⟨t,ht,rfl,e⟩:=isTree_ok h2
    unfold putN at h8 hc
    unfold putR at hc
    rw [e] at h8 hc
    have hq:qcOk ⟨nw,f,ng,g,aa,fl,nu,de,top⟩=true:=by unfold qcOk;rw [h5,h6,h7];rfl
    exact ⟨.ret (.tup []) _,hc,put_lift0 t ⟨nw,f,ng,g,aa,fl,nu,de,top⟩ n hq h8 hlab gq go gp⟩
   ·exact absurd h hX.fail
  ·exact absurd h hX.fail
end Go.Sx
end
