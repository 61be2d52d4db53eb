/- CertifyRoot is proved, part 23. -/
import Derived.Test.YtleifmkjbmhlpaaGreatDoorX22
set_option linter.unusedVariables false
set_option linter.unusedSimpArgs false
set_option linter.unusedSectionVars false
section
set_option maxRecDepth 1000000
namespace Go.Sx
open Go
noncomputable abbrev kPick29 : Known PP II := kPick 29 (.inl rfl)
def xRow (X : Nat → Nat → Int) (j : Nat) : List AV := [.int .i64 (X j 0), .int .i64 (X j 1), .int .i64 (X j 2), .int .i64 (X j 3)]
def xAV (n : Nat) (X : Nat → Nat → Int) : AV := .fslice n 4 (xRow X)
def factsB (m : Nat) (F : Nat → Fact) : ABlk := .rows m 10 (fun j => factAV (F j)) (.ty 43)
def outV (e : Bool) (m : Nat) : AV := match e with | true => .nilSlice | false => .own 12 m 10
def outB (e : Bool) (m : Nat) (F : Nat → Fact) : List (Nat × ABlk) := match e with | true => [] | false => [(12, factsB m F)]
structure Made where
  (i : Int) (e : Bool) (m : Nat) (F : Nat → Fact)
noncomputable def s10 (n : Nat) (X : Nat → Nat → Int) (p : Made) : St := { t := Tr.ofList [(0, xAV n X), (3, outV p.e p.m), (4, .int .i64 p.i)], nt := 186, H := { n := 13, t := Tr.ofList (outB p.e p.m p.F) }, df := [] }
noncomputable def e10 (n : Nat) (X : Nat → Nat → Int) (e : Bool) (i : Int) (m : Nat) (F : Nat → Fact) : GE := .cond e (.one (.x 0 (s10 n X ⟨i, true, m, F⟩))) (.one (.x 0 (s10 n X ⟨i, false, m, F⟩)))
noncomputable def s10b (n : Nat) (X : Nat → Nat → Int) (p : Made) (f : Fact) (k : Int) : St := { t := Tr.ofList [(0, xAV n X), (3, outV p.e p.m), (4, .int .i64 p.i), (5, .ptr 61 0 0 0), (6, .int .i64 k)], nt := 186, H := { n := 96, t := Tr.ofList ((61, .cells (factAV f) (.ty 43)) :: outB p.e p.m p.F) }, df := [] }
noncomputable def e10b (n : Nat) (X : Nat → Nat → Int) (p : Made) (f : Fact) (k : Int) : GE := .one (.x 2 (s10b n X p f k))
theorem place_step0 (n : Nat) (X : Nat → Nat → Int) (i : Int) (m : Nat) (F : Nat → Fact) (f : Fact) (K : Int) (k : Int) (Q : Prop) : (kr [] [] 10 12034 96 (s10b n X ⟨i, true, m, F⟩ f) (fun _ => e10b n X ⟨i, true, m, F⟩ f K) (fun k => k + 1) Q k) = (Cond (decide (k < 0)) False (EqI f.t f.t (EqI f.s f.s (EqI f.v f.v (EqI f.w f.w (EqI f.o f.o (EqI f.p f.p (EqI f.d f.d (EqI f.l f.l (EqI f.h f.h (EqI f.b f.b (EqN n n (RowsLe n (xRow X) (xRow X) ∧ EqI i i (EqI k K True)))))))))))))) := by kernel_rfl
theorem place_step (n : Nat) (X : Nat → Nat → Int) (i : Int) (m : Nat) (F : Nat → Fact) (f : Fact) (K : Int) (k : Int) (Q : Prop) : (kr [] [] 10 12034 96 (s10b n X ⟨i, false, m, F⟩ f) (fun _ => e10b n X ⟨i, false, m, F⟩ f K) (fun k => k + 1) Q k) = (Cond (decide (k < Int.ofNat m)) (Asks (decide (0 ≤ k) && decide (k < Int.ofNat m)) (Asks (decide (Int.toNat k < m)) (Cond (decide (Fact.t (F (Int.toNat k)) < f.t)) (Asks (inR .i64 (k + 1)) (EqI f.t f.t (EqI f.s f.s (EqI f.v f.v (EqI f.w f.w (EqI f.o f.o (EqI f.p f.p (EqI f.d f.d (EqI f.l f.l (EqI f.h f.h (EqI f.b f.b (EqN m m ((RowsLe m (fun j => factAV (F j)) fun j => factAV (F j)) ∧ EqN m m (EqN n n (RowsLe n (xRow X) (xRow X) ∧ EqI i i (EqI (k + 1) (k + 1) Q)))))))))))))))) (Asks (decide (0 ≤ k) && decide (k < Int.ofNat m)) (Asks (decide (Int.toNat k < m)) (Cond (decide (Fact.t (F (Int.toNat k)) = f.t)) (Asks (decide (0 ≤ k) && decide (k <
 Int.ofNat m)) (Asks (decide (Int.toNat k < m)) (Cond (decide (Fact.s (F (Int.toNat k)) < f.s)) (Asks (inR .i64 (k + 1)) (EqI f.t f.t (EqI f.s f.s (EqI f.v f.v (EqI f.w f.w (EqI f.o f.o (EqI f.p f.p (EqI f.d f.d (EqI f.l f.l (EqI f.h f.h (EqI f.b f.b (EqN m m ((RowsLe m (fun j => factAV (F j)) fun j => factAV (F j)) ∧ EqN m m (EqN n n (RowsLe n (xRow X) (xRow X) ∧ EqI i i (EqI (k + 1) (k + 1) Q)))))))))))))))) (EqI f.t f.t (EqI f.s f.s (EqI f.v f.v (EqI f.w f.w (EqI f.o f.o (EqI f.p f.p (EqI f.d f.d (EqI f.l f.l (EqI f.h f.h (EqI f.b f.b (EqN m m ((RowsLe m (fun j => factAV (F j)) fun j => factAV (F j)) ∧ EqN m m (EqN n n (RowsLe n (xRow X) (xRow X) ∧ EqI i i (EqI k K True)))))))))))))))))) (EqI f.t f.t (EqI f.s f.s (EqI f.v f.v (EqI f.w f.w (EqI f.o f.o (EqI f.p f.p (EqI f.d f.d (EqI f.l f.l (EqI f.h f.h (EqI f.b f.b (EqN m m ((RowsLe m (fun j => factAV (F j)) fun j => factAV (F j)) ∧
 EqN m m (EqN n n (RowsLe n (xRow X) (xRow X) ∧ EqI i i (EqI k K True))))))))))))))))))))) (EqI f.t f.t (EqI f.s f.s (EqI f.v f.v (EqI f.w f.w (EqI f.o f.o (EqI f.p f.p (EqI f.d f.d (EqI f.l f.l (EqI f.h f.h (EqI f.b f.b (EqN m m ((RowsLe m (fun j => factAV (F j)) fun j => factAV (F j)) ∧ EqN m m (EqN n n (RowsLe n (xRow X) (xRow X) ∧ EqI i i (EqI k K True)))))))))))))))) := by kernel_rfl
theorem made_step0 (n : Nat) (X : Nat → Nat → Int) (i : Int) (m m' : Nat) (F F' : Nat → Fact) (f : Fact) (i' iN : Int) (eN : Bool) (mN : Nat) (FN : Nat → Fact) (Q : Prop) : (kr [kPick29] [(12034, 96, s10b n X ⟨i, true, m, F⟩ f 0, e10b n X ⟨i, true, m, F⟩ f 0)] 10 3008 12 (s10 n X) (fun _ => e10 n X eN iN mN FN) (fun _ => ⟨i', false, m', F'⟩) Q ⟨i, true, m, F⟩) = (let zz1 := (EqI (pickF (Int.tdiv (X (Int.toNat i) 1) 30) 100) f.b (EqN n n (RowsLe n (xRow X) (xRow X) ∧ EqI i i (Asks (inR .i64 (i + 1)) (EqN 10 (m' * 10) ((RowsLe m' (cutRow [AV.int .i64 f.t, AV.int .i64 f.s, AV.int .i64 f.v, AV.int .i64 f.w, AV.int .i64 f.o, AV.int .i64 f.p, AV.int .i64 f.d, AV.int .i64 f.l, AV.int .i64 f.h, AV.int .i64 f.b] 10) fun j => factAV (F' j)) ∧ EqN 1 m' (EqN n n (RowsLe n (xRow X) (xRow X) ∧ EqI (i + 1) i' Q)))))))); (Cond (decide (i < Int.ofNat n)) (Cond (decide (i < 40)) (Asks (decide (0 ≤ i) &&
 decide (i < Int.ofNat n)) (Asks (inR .i64 (X (Int.toNat i) 0) && true) (Asks (decide (0 ≤ i) && decide (i < Int.ofNat n)) (Asks (decide (X (Int.toNat i) 0 = X (Int.toNat i) 0)) (Asks (inR .i64 (Int.tdiv (X (Int.toNat i) 0) 30)) (Asks (inR .i64 (Int.tdiv (X (Int.toNat i) 0) 30) && true) (Asks (decide (0 ≤ i) && decide (i < Int.ofNat n)) (Asks (decide (X (Int.toNat i) 1 = X (Int.toNat i) 1)) (Asks (decide (X (Int.toNat i) 1 = X (Int.toNat i) 1)) (Asks (inR .i64 (X (Int.toNat i) 1) && true) (Asks (decide (0 ≤ i) && decide (i < Int.ofNat n)) (Asks (decide (X (Int.toNat i) 1 = X (Int.toNat i) 1)) (Asks (decide (X (Int.toNat i) 1 = X (Int.toNat i) 1)) (Asks (decide (X (Int.toNat i) 1 = X (Int.toNat i) 1)) (Asks (inR .i64 (Int.tdiv (X (Int.toNat i) 1) 2)) (Asks (inR .i64 (Int.tdiv (X (Int.toNat i) 1) 2) && true) (Asks (decide (0 ≤ i) && decide (i < Int.ofNat n)) (Asks (decide (X (Int.toNat i) 1
 = X (Int.toNat i) 1)) (Asks (decide (X (Int.toNat i) 1 = X (Int.toNat i) 1)) (Asks (decide (X (Int.toNat i) 1 = X (Int.toNat i) 1)) (Asks (decide (X (Int.toNat i) 1 = X (Int.toNat i) 1)) (Asks (inR .i64 (Int.tdiv (X (Int.toNat i) 1) 6)) (Asks (inR .i64 (Int.tdiv (X (Int.toNat i) 1) 6) && true) (Asks (inR .i64 (pickF (Int.tdiv (X (Int.toNat i) 1) 6) 5 - 1)) (Asks (decide (0 ≤ i) && decide (i < Int.ofNat n)) (Asks (decide (X (Int.toNat i) 2 = X (Int.toNat i) 2)) (Asks (decide (X (Int.toNat i) 2 = X (Int.toNat i) 2)) (Asks (decide (X (Int.toNat i) 2 = X (Int.toNat i) 2)) (Asks (decide (X (Int.toNat i) 2 = X (Int.toNat i) 2)) (Asks (decide (X (Int.toNat i) 2 = X (Int.toNat i) 2)) (Asks (inR .i64 (X (Int.toNat i) 2) && true) (Asks (decide (0 ≤ i) && decide (i < Int.ofNat n)) (Asks (decide (X (Int.toNat i) 1 = X (Int.toNat i) 1)) (Asks (decide (X (Int.toNat i) 1 = X (Int.toNat i) 1)) (Asks
 (decide (X (Int.toNat i) 1 = X (Int.toNat i) 1)) (Asks (decide (X (Int.toNat i) 1 = X (Int.toNat i) 1)) (Asks (decide (X (Int.toNat i) 1 = X (Int.toNat i) 1)) (Asks (decide (X (Int.toNat i) 1 = X (Int.toNat i) 1)) (Asks (inR .i64 (Int.tdiv (X (Int.toNat i) 1) 30)) (Asks (inR .i64 (Int.tdiv (X (Int.toNat i) 1) 30) && true) (Asks (inR .i64 (2 * pickF (X (Int.toNat i) 1) 2)) (Asks (decide (0 ≤ i) && decide (i < Int.ofNat n)) (Asks (inR .i64 (Int.tdiv (X (Int.toNat i) 1) 3000)) (Asks (inR .i64 (Int.tdiv (X (Int.toNat i) 1) 3000) && true) (Asks (decide (pickF (X (Int.toNat i) 1) 2 = pickF (X (Int.toNat i) 1) 2)) (Asks (inR .i64 (2 * pickF (X (Int.toNat i) 1) 2 + pickF (Int.tdiv (X (Int.toNat i) 1) 3000) 2)) (Asks (decide (0 ≤ i) && decide (i < Int.ofNat n)) (Asks (inR .i64 (X (Int.toNat i) 3) && true) (Cond (decide (pickF (X (Int.toNat i) 3) 4 = 3)) (Asks (decide (0 ≤ i) && decide (i <
 Int.ofNat n)) (Asks (inR .i64 (X (Int.toNat i) 2) && true) (Asks (decide (0 ≤ i) && decide (i < Int.ofNat n)) (Asks (inR .i64 (Int.tdiv (X (Int.toNat i) 3) 4)) (Asks (inR .i64 (Int.tdiv (X (Int.toNat i) 3) 4) && true) (Asks (decide (pickF (X (Int.toNat i) 2) 2199023255552 = pickF (X (Int.toNat i) 2) 2199023255552)) (Asks (decide (0 ≤ i) && decide (i < Int.ofNat n)) (Asks (decide (X (Int.toNat i) 3 = X (Int.toNat i) 3)) (Asks (inR .i64 (Int.tdiv (X (Int.toNat i) 3) 12)) (Asks (inR .i64 (Int.tdiv (X (Int.toNat i) 3) 12) && true) (Asks (decide (pickF (X (Int.toNat i) 2) 2199023255552 = pickF (X (Int.toNat i) 2) 2199023255552)) (Asks (inR .i64 (pickF (Int.tdiv (X (Int.toNat i) 3) 4) 3 * pickF (Int.tdiv (X (Int.toNat i) 3) 12) 30)) (Asks (inR .i64 (pickF (X (Int.toNat i) 2) 2199023255552 + pickF (Int.tdiv (X (Int.toNat i) 3) 4) 3 * pickF (Int.tdiv (X (Int.toNat i) 3) 12) 30)) (Asks (inR .i64
 (Int.tdiv (pickF (X (Int.toNat i) 0) 30) 10)) (LoopAt PP II false (loopOf II 10 12034) 96 { t := .n (.n (.n .e (some AV.nilSlice) .e) none (.n .e (some (AV.ptr 61 0 0 0)) .e)) (some (AV.fslice n 4 (xRow X))) (.n (.n .e (some (AV.int .i64 i)) .e) none (.n .e (some (AV.int .i64 0)) .e)), nt := 186, H := { n := 96, t := .n (.n .e none (.n .e none (.n .e none (.n .e none (.n .e (some (ABlk.cells (factAV f) (Access.ty 43))) .e))))) none .e }, df := [] } (GE.one (AExit.x 2 { t := .n (.n (.n .e (some AV.nilSlice) .e) none (.n .e (some (AV.ptr 61 0 0 0)) .e)) (some (AV.fslice n 4 (xRow X))) (.n (.n .e (some (AV.int .i64 i)) .e) none (.n .e (some (AV.int .i64 0)) .e)), nt := 186, H := { n := 96, t := .n (.n .e none (.n .e none (.n .e none (.n .e none (.n .e (some (ABlk.cells (factAV f) (Access.ty 43))) .e))))) none .e }, df := [] })) ∧ EqI (pickF (X (Int.toNat i) 0) 30) f.t (EqI (pickF (Int.tdiv
 (X (Int.toNat i) 0) 30) 4) f.s (EqI (pickF (X (Int.toNat i) 1) 2) f.v (EqI (pickF (Int.tdiv (X (Int.toNat i) 1) 2) 3) f.w (EqI (2 * pickF (X (Int.toNat i) 1) 2 + pickF (Int.tdiv (X (Int.toNat i) 1) 3000) 2) f.o (EqI (pickF (Int.tdiv (X (Int.toNat i) 1) 6) 5 - 1) f.p (EqI (Int.tdiv (pickF (X (Int.toNat i) 0) 30) 10) f.d (EqI (pickF (X (Int.toNat i) 2) 2199023255552) f.l (EqI (pickF (X (Int.toNat i) 2) 2199023255552 + pickF (Int.tdiv (X (Int.toNat i) 3) 4) 3 * pickF (Int.tdiv (X (Int.toNat i) 3) 12) 30) f.h zz1))))))))))))))))))))))) (Asks (decide (0 ≤ i) && decide (i < Int.ofNat n)) (Asks (inR .i64 (Int.tdiv (X (Int.toNat i) 3) 4)) (Asks (inR .i64 (Int.tdiv (X (Int.toNat i) 3) 4) && true) (Asks (decide (pickF (X (Int.toNat i) 2) 40 = pickF (X (Int.toNat i) 2) 40)) (Asks (decide (0 ≤ i) && decide (i < Int.ofNat n)) (Asks (decide (X (Int.toNat i) 3 = X (Int.toNat i) 3)) (Asks (inR .i64
 (Int.tdiv (X (Int.toNat i) 3) 12)) (Asks (inR .i64 (Int.tdiv (X (Int.toNat i) 3) 12) && true) (Asks (decide (pickF (X (Int.toNat i) 2) 40 = pickF (X (Int.toNat i) 2) 40)) (Asks (inR .i64 (pickF (Int.tdiv (X (Int.toNat i) 3) 4) 3 * pickF (Int.tdiv (X (Int.toNat i) 3) 12) 30)) (Asks (inR .i64 (pickF (X (Int.toNat i) 2) 40 + pickF (Int.tdiv (X (Int.toNat i) 3) 4) 3 * pickF (Int.tdiv (X (Int.toNat i) 3) 12) 30)) (Asks (inR .i64 (Int.tdiv (pickF (X (Int.toNat i) 0) 30) 10)) (LoopAt PP II false (loopOf II 10 12034) 96 { t := .n (.n (.n .e (some AV.nilSlice) .e) none (.n .e (some (AV.ptr 61 0 0 0)) .e)) (some (AV.fslice n 4 (xRow X))) (.n (.n .e (some (AV.int .i64 i)) .e) none (.n .e (some (AV.int .i64 0)) .e)), nt := 186, H := { n := 96, t := .n (.n .e none (.n .e none (.n .e none (.n .e none (.n .e (some (ABlk.cells (factAV f) (Access.ty 43))) .e))))) none .e }, df := [] } (GE.one (AExit.x 2
 { t := .n (.n (.n .e (some AV.nilSlice) .e) none (.n .e (some (AV.ptr 61 0 0 0)) .e)) (some (AV.fslice n 4 (xRow X))) (.n (.n .e (some (AV.int .i64 i)) .e) none (.n .e (some (AV.int .i64 0)) .e)), nt := 186, H := { n := 96, t := .n (.n .e none (.n .e none (.n .e none (.n .e none (.n .e (some (ABlk.cells (factAV f) (Access.ty 43))) .e))))) none .e }, df := [] })) ∧ EqI (pickF (X (Int.toNat i) 0) 30) f.t (EqI (pickF (Int.tdiv (X (Int.toNat i) 0) 30) 4) f.s (EqI (pickF (X (Int.toNat i) 1) 2) f.v (EqI (pickF (Int.tdiv (X (Int.toNat i) 1) 2) 3) f.w (EqI (2 * pickF (X (Int.toNat i) 1) 2 + pickF (Int.tdiv (X (Int.toNat i) 1) 3000) 2) f.o (EqI (pickF (Int.tdiv (X (Int.toNat i) 1) 6) 5 - 1) f.p (EqI (Int.tdiv (pickF (X (Int.toNat i) 0) 30) 10) f.d (EqI (pickF (X (Int.toNat i) 2) 40) f.l (EqI (pickF (X (Int.toNat i) 2) 40 + pickF (Int.tdiv (X (Int.toNat i) 3) 4) 3 * pickF (Int.tdiv (X (Int.toNat
 i) 3) 12) 30) f.h zz1)))))))))))))))))))))))))))))))))))))))))))))))))))))))))))))))))))))) (Cond eN (EqN n n (RowsLe n (xRow X) (xRow X) ∧ EqI i iN True)) (EqN mN 0 (EqN mN 0 (EqN n n (RowsLe n (xRow X) (xRow X) ∧ EqI i iN True)))))) (Cond eN (EqN n n (RowsLe n (xRow X) (xRow X) ∧ EqI i iN True)) (EqN mN 0 (EqN mN 0 (EqN n n (RowsLe n (xRow X) (xRow X) ∧ EqI i iN True))))))) := by kernel_rfl
theorem made_step (n : Nat) (X : Nat → Nat → Int) (i : Int) (m m' : Nat) (F F' : Nat → Fact) (f : Fact) (K i' iN : Int) (eN : Bool) (mN : Nat) (FN : Nat → Fact) (Q : Prop) : (kr [kPick29] [(12034, 96, s10b n X ⟨i, false, m, F⟩ f 0, e10b n X ⟨i, false, m, F⟩ f K)] 10 3008 12 (s10 n X) (fun _ => e10 n X eN iN mN FN) (fun _ => ⟨i', false, m', F'⟩) Q ⟨i, false, m, F⟩) = (let zz1 := (Asks (decide (0 ≤ K) && decide (K ≤ K) && decide (K ≤ Int.ofNat m) && decide (0 < m)) (Asks (decide (0 ≤ K) && decide (K ≤ Int.ofNat m) && decide (Int.ofNat m ≤ Int.ofNat m) && decide (0 < m)) (Asks (decide (Int.toNat K + Int.toNat (Int.ofNat m - K) ≤ m) && true && decide ((1 + Int.toNat (Int.ofNat m - K)) * 80 ≤ 140737488355328) && true) (Cond (decide (Int.toNat (Int.ofNat m - K) = 0)) (Asks (decide (0 ≤ K) && decide (K ≤ K) && decide (K ≤ Int.ofNat m) && decide (0 < m)) (Asks (decide (Int.toNat (K - 0) =
 Int.toNat (K - 0)) && decide (some (Int.toNat (K - 0)) = some (Int.toNat (K - 0))) && true) (Asks (decide (0 + Int.toNat (K - 0) ≤ m) && true && true && decide ((Int.toNat (K - 0) + 1) * 80 ≤ 140737488355328) && true) (Cond (decide (Int.toNat (K - 0) = Int.toNat (K - 0))) (Asks (inR .i64 (i + 1)) (EqN (Int.toNat (K - 0) + 1) m' ((RowsLe (Int.toNat (K - 0) + 1) (fun i => bif Nat.blt i (Int.toNat (K - 0)) then factAV (F (0 + i)) else List.take 10 (List.drop (0 + (i - Int.toNat (K - 0)) * 10) [AV.int .i64 f.t, AV.int .i64 f.s, AV.int .i64 f.v, AV.int .i64 f.w, AV.int .i64 f.o, AV.int .i64 f.p, AV.int .i64 f.d, AV.int .i64 f.l, AV.int .i64 f.h, AV.int .i64 f.b])) fun j => factAV (F' j)) ∧ EqN (Int.toNat (K - 0) + 1) m' (EqN n n (RowsLe n (xRow X) (xRow X) ∧ EqI (i + 1) i' Q))))) (Asks (inR .i64 (i + 1)) (EqN (Int.toNat (K - 0) + 1) m' ((RowsLe (Int.toNat (K - 0) + 1) (fun i => bif Nat.blt i
 (Int.toNat (K - 0)) then factAV (F (0 + i)) else List.take 10 (List.drop (0 + (i - Int.toNat (K - 0)) * 10) [AV.int .i64 f.t, AV.int .i64 f.s, AV.int .i64 f.v, AV.int .i64 f.w, AV.int .i64 f.o, AV.int .i64 f.p, AV.int .i64 f.d, AV.int .i64 f.l, AV.int .i64 f.h, AV.int .i64 f.b])) fun j => factAV (F' j)) ∧ EqN (Int.toNat (K - 0) + 1) m' (EqN n n (RowsLe n (xRow X) (xRow X) ∧ EqI (i + 1) i' Q))))))))) (Asks (decide (0 ≤ K) && decide (K ≤ K) && decide (K ≤ Int.ofNat m) && decide (0 < m)) (Asks (decide (Int.toNat (K - 0) = Int.toNat (K - 0)) && decide (some (Int.toNat (K - 0)) = some (Int.toNat (K - 0))) && true) (Asks (decide (0 + Int.toNat (K - 0) ≤ m) && decide (1 + Int.toNat (Int.ofNat m - K) ≤ 1 + Int.toNat (Int.ofNat m - K)) && true && decide ((Int.toNat (K - 0) + (1 + Int.toNat (Int.ofNat m - K))) * 80 ≤ 140737488355328) && true) (Cond (decide (1 + Int.toNat (Int.ofNat m - K) = 0))
 (Asks (inR .i64 (i + 1)) (EqN m' 0 False)) (Cond (decide (Int.toNat (K - 0) = Int.toNat (K - 0))) (Asks (inR .i64 (i + 1)) (EqN (Int.toNat (K - 0) + (1 + Int.toNat (Int.ofNat m - K))) m' ((RowsLe (Int.toNat (K - 0) + (1 + Int.toNat (Int.ofNat m - K))) (fun i => bif Nat.blt i (Int.toNat (K - 0)) then factAV (F (0 + i)) else bif Nat.blt (i - Int.toNat (K - 0)) 1 then List.take 10 (List.drop (0 + (i - Int.toNat (K - 0)) * 10) [AV.int .i64 f.t, AV.int .i64 f.s, AV.int .i64 f.v, AV.int .i64 f.w, AV.int .i64 f.o, AV.int .i64 f.p, AV.int .i64 f.d, AV.int .i64 f.l, AV.int .i64 f.h, AV.int .i64 f.b]) else factAV (F (Int.toNat K + (i - Int.toNat (K - 0) - 1)))) fun j => factAV (F' j)) ∧ EqN (Int.toNat (K - 0) + (1 + Int.toNat (Int.ofNat m - K))) m' (EqN n n (RowsLe n (xRow X) (xRow X) ∧ EqI (i + 1) i' Q))))) (Asks (inR .i64 (i + 1)) (EqN (Int.toNat (K - 0) + (1 + Int.toNat (Int.ofNat m - K))) m'
 ((RowsLe (Int.toNat (K - 0) + (1 + Int.toNat (Int.ofNat m - K))) (fun i => bif Nat.blt i (Int.toNat (K - 0)) then factAV (F (0 + i)) else bif Nat.blt (i - Int.toNat (K - 0)) 1 then List.take 10 (List.drop (0 + (i - Int.toNat (K - 0)) * 10) [AV.int .i64 f.t, AV.int .i64 f.s, AV.int .i64 f.v, AV.int .i64 f.w, AV.int .i64 f.o, AV.int .i64 f.p, AV.int .i64 f.d, AV.int .i64 f.l, AV.int .i64 f.h, AV.int .i64 f.b]) else factAV (F (Int.toNat K + (i - Int.toNat (K - 0) - 1)))) fun j => factAV (F' j)) ∧ EqN (Int.toNat (K - 0) + (1 + Int.toNat (Int.ofNat m - K))) m' (EqN n n (RowsLe n (xRow X) (xRow X) ∧ EqI (i + 1) i' Q)))))))))))))); (Cond (decide (i < Int.ofNat n)) (Cond (decide (i < 40)) (Asks (decide (0 ≤ i) && decide (i < Int.ofNat n)) (Asks (inR .i64 (X (Int.toNat i) 0) && true) (Asks (decide (0 ≤ i) && decide (i < Int.ofNat n)) (Asks (decide (X (Int.toNat i) 0 = X (Int.toNat i) 0)) (Asks
 (inR .i64 (Int.tdiv (X (Int.toNat i) 0) 30)) (Asks (inR .i64 (Int.tdiv (X (Int.toNat i) 0) 30) && true) (Asks (decide (0 ≤ i) && decide (i < Int.ofNat n)) (Asks (decide (X (Int.toNat i) 1 = X (Int.toNat i) 1)) (Asks (decide (X (Int.toNat i) 1 = X (Int.toNat i) 1)) (Asks (inR .i64 (X (Int.toNat i) 1) && true) (Asks (decide (0 ≤ i) && decide (i < Int.ofNat n)) (Asks (decide (X (Int.toNat i) 1 = X (Int.toNat i) 1)) (Asks (decide (X (Int.toNat i) 1 = X (Int.toNat i) 1)) (Asks (decide (X (Int.toNat i) 1 = X (Int.toNat i) 1)) (Asks (inR .i64 (Int.tdiv (X (Int.toNat i) 1) 2)) (Asks (inR .i64 (Int.tdiv (X (Int.toNat i) 1) 2) && true) (Asks (decide (0 ≤ i) && decide (i < Int.ofNat n)) (Asks (decide (X (Int.toNat i) 1 = X (Int.toNat i) 1)) (Asks (decide (X (Int.toNat i) 1 = X (Int.toNat i) 1)) (Asks (decide (X (Int.toNat i) 1 = X (Int.toNat i) 1)) (Asks (decide (X (Int.toNat i) 1 = X (Int.toNat i)
 1)) (Asks (inR .i64 (Int.tdiv (X (Int.toNat i) 1) 6)) (Asks (inR .i64 (Int.tdiv (X (Int.toNat i) 1) 6) && true) (Asks (inR .i64 (pickF (Int.tdiv (X (Int.toNat i) 1) 6) 5 - 1)) (Asks (decide (0 ≤ i) && decide (i < Int.ofNat n)) (Asks (decide (X (Int.toNat i) 2 = X (Int.toNat i) 2)) (Asks (decide (X (Int.toNat i) 2 = X (Int.toNat i) 2)) (Asks (decide (X (Int.toNat i) 2 = X (Int.toNat i) 2)) (Asks (decide (X (Int.toNat i) 2 = X (Int.toNat i) 2)) (Asks (decide (X (Int.toNat i) 2 = X (Int.toNat i) 2)) (Asks (inR .i64 (X (Int.toNat i) 2) && true) (Asks (decide (0 ≤ i) && decide (i < Int.ofNat n)) (Asks (decide (X (Int.toNat i) 1 = X (Int.toNat i) 1)) (Asks (decide (X (Int.toNat i) 1 = X (Int.toNat i) 1)) (Asks (decide (X (Int.toNat i) 1 = X (Int.toNat i) 1)) (Asks (decide (X (Int.toNat i) 1 = X (Int.toNat i) 1)) (Asks (decide (X (Int.toNat i) 1 = X (Int.toNat i) 1)) (Asks (decide (X (Int.toNat
 i) 1 = X (Int.toNat i) 1)) (Asks (inR .i64 (Int.tdiv (X (Int.toNat i) 1) 30)) (Asks (inR .i64 (Int.tdiv (X (Int.toNat i) 1) 30) && true) (Asks (inR .i64 (2 * pickF (X (Int.toNat i) 1) 2)) (Asks (decide (0 ≤ i) && decide (i < Int.ofNat n)) (Asks (inR .i64 (Int.tdiv (X (Int.toNat i) 1) 3000)) (Asks (inR .i64 (Int.tdiv (X (Int.toNat i) 1) 3000) && true) (Asks (decide (pickF (X (Int.toNat i) 1) 2 = pickF (X (Int.toNat i) 1) 2)) (Asks (inR .i64 (2 * pickF (X (Int.toNat i) 1) 2 + pickF (Int.tdiv (X (Int.toNat i) 1) 3000) 2)) (Asks (decide (0 ≤ i) && decide (i < Int.ofNat n)) (Asks (inR .i64 (X (Int.toNat i) 3) && true) (Cond (decide (pickF (X (Int.toNat i) 3) 4 = 3)) (Asks (decide (0 ≤ i) && decide (i < Int.ofNat n)) (Asks (inR .i64 (X (Int.toNat i) 2) && true) (Asks (decide (0 ≤ i) && decide (i < Int.ofNat n)) (Asks (inR .i64 (Int.tdiv (X (Int.toNat i) 3) 4)) (Asks (inR .i64 (Int.tdiv (X
 (Int.toNat i) 3) 4) && true) (Asks (decide (pickF (X (Int.toNat i) 2) 2199023255552 = pickF (X (Int.toNat i) 2) 2199023255552)) (Asks (decide (0 ≤ i) && decide (i < Int.ofNat n)) (Asks (decide (X (Int.toNat i) 3 = X (Int.toNat i) 3)) (Asks (inR .i64 (Int.tdiv (X (Int.toNat i) 3) 12)) (Asks (inR .i64 (Int.tdiv (X (Int.toNat i) 3) 12) && true) (Asks (decide (pickF (X (Int.toNat i) 2) 2199023255552 = pickF (X (Int.toNat i) 2) 2199023255552)) (Asks (inR .i64 (pickF (Int.tdiv (X (Int.toNat i) 3) 4) 3 * pickF (Int.tdiv (X (Int.toNat i) 3) 12) 30)) (Asks (inR .i64 (pickF (X (Int.toNat i) 2) 2199023255552 + pickF (Int.tdiv (X (Int.toNat i) 3) 4) 3 * pickF (Int.tdiv (X (Int.toNat i) 3) 12) 30)) (Asks (inR .i64 (Int.tdiv (pickF (X (Int.toNat i) 0) 30) 10)) (LoopAt PP II false (loopOf II 10 12034) 96 { t := .n (.n (.n .e (some (AV.own 12 m 10)) .e) none (.n .e (some (AV.ptr 61 0 0 0)) .e)) (some (AV.fslice n 4 (xRow X))) (.n (.n .e (some (AV.int .i64 i)) .e) none (.n .e (some (AV.int .i64 0)) .e)), nt := 186, H := { n := 96, t := .n (.n .e none (.n .e none (.n .e none (.n .e none (.n .e (some (ABlk.cells (factAV f) (Access.ty 43))) .e))))) none (.n (.n .e none (.n .e (some (ABlk.rows m 10 (fun j => factAV (F j)) (Access.ty 43))) .e)) none .e) }, df := [] }
 (GE.one (AExit.x 2 { t := .n (.n (.n .e (some (AV.own 12 m 10)) .e) none (.n .e (some (AV.ptr 61 0 0 0)) .e)) (some (AV.fslice n 4 (xRow X))) (.n (.n .e (some (AV.int .i64 i)) .e) none (.n .e (some (AV.int .i64 K)) .e)), nt := 186, H := { n := 96, t := .n (.n .e none (.n .e none (.n .e none (.n .e none (.n .e (some (ABlk.cells (factAV f) (Access.ty 43))) .e))))) none (.n (.n .e none (.n .e (some (ABlk.rows m 10 (fun j => factAV (F j)) (Access.ty 43))) .e)) none .e) }, df := [] })) ∧ EqI (pickF (X (Int.toNat i) 0) 30) f.t (EqI (pickF (Int.tdiv (X (Int.toNat i) 0) 30) 4) f.s (EqI (pickF (X (Int.toNat i) 1) 2) f.v (EqI (pickF (Int.tdiv (X (Int.toNat i) 1) 2) 3) f.w (EqI (2 * pickF (X (Int.toNat i) 1) 2 + pickF (Int.tdiv (X (Int.toNat i) 1) 3000) 2) f.o (EqI (pickF (Int.tdiv (X (Int.toNat i) 1) 6) 5 - 1) f.p (EqI (Int.tdiv (pickF (X (Int.toNat i) 0) 30) 10) f.d (EqI (pickF (X (Int.toNat i)
 2) 2199023255552) f.l (EqI (pickF (X (Int.toNat i) 2) 2199023255552 + pickF (Int.tdiv (X (Int.toNat i) 3) 4) 3 * pickF (Int.tdiv (X (Int.toNat i) 3) 12) 30) f.h (EqI (pickF (Int.tdiv (X (Int.toNat i) 1) 30) 100) f.b (EqN m m ((RowsLe m (fun j => factAV (F j)) fun j => factAV (F j)) ∧ EqN m m (EqN n n (RowsLe n (xRow X) (xRow X) ∧ EqI i i (Cond (decide (K < Int.ofNat m)) (Asks (decide (0 ≤ K) && decide (K < Int.ofNat m)) (Asks (decide (Int.toNat K < m)) (Cond (decide (Fact.t (F (Int.toNat K)) = f.t)) (Asks (decide (0 ≤ K) && decide (K < Int.ofNat m)) (Asks (decide (Int.toNat K < m)) (Cond (decide (Fact.s (F (Int.toNat K)) = f.s)) (Asks (inR .i64 (i + 1)) (EqN m m' ((RowsLe m (fun j => factAV (F j)) fun j => factAV (F' j)) ∧ EqN m m' (EqN n n (RowsLe n (xRow X) (xRow X) ∧ EqI (i + 1) i' Q))))) zz1))) zz1))) zz1))))))))))))))))))))))))))))) (Asks (decide (0 ≤ i) && decide (i < Int.ofNat n))
 (Asks (inR .i64 (Int.tdiv (X (Int.toNat i) 3) 4)) (Asks (inR .i64 (Int.tdiv (X (Int.toNat i) 3) 4) && true) (Asks (decide (pickF (X (Int.toNat i) 2) 40 = pickF (X (Int.toNat i) 2) 40)) (Asks (decide (0 ≤ i) && decide (i < Int.ofNat n)) (Asks (decide (X (Int.toNat i) 3 = X (Int.toNat i) 3)) (Asks (inR .i64 (Int.tdiv (X (Int.toNat i) 3) 12)) (Asks (inR .i64 (Int.tdiv (X (Int.toNat i) 3) 12) && true) (Asks (decide (pickF (X (Int.toNat i) 2) 40 = pickF (X (Int.toNat i) 2) 40)) (Asks (inR .i64 (pickF (Int.tdiv (X (Int.toNat i) 3) 4) 3 * pickF (Int.tdiv (X (Int.toNat i) 3) 12) 30)) (Asks (inR .i64 (pickF (X (Int.toNat i) 2) 40 + pickF (Int.tdiv (X (Int.toNat i) 3) 4) 3 * pickF (Int.tdiv (X (Int.toNat i) 3) 12) 30)) (Asks (inR .i64 (Int.tdiv (pickF (X (Int.toNat i) 0) 30) 10)) (LoopAt PP II false (loopOf II 10 12034) 96 { t := .n (.n (.n .e (some (AV.own 12 m 10)) .e) none (.n .e (some (AV.ptr 61 0 0 0)) .e)) (some (AV.fslice n 4 (xRow X))) (.n (.n .e (some (AV.int .i64 i)) .e) none (.n .e (some (AV.int .i64 0)) .e)), nt := 186, H := { n := 96, t := .n (.n .e none (.n .e none (.n .e none (.n .e none (.n .e (some (ABlk.cells (factAV f) (Access.ty 43))) .e))))) none (.n (.n .e none (.n .e (some (ABlk.rows m 10 (fun j => factAV (F j)) (Access.ty 43))) .e)) none .e) }, df := [] }
 (GE.one (AExit.x 2 { t := .n (.n (.n .e (some (AV.own 12 m 10)) .e) none (.n .e (some (AV.ptr 61 0 0 0)) .e)) (some (AV.fslice n 4 (xRow X))) (.n (.n .e (some (AV.int .i64 i)) .e) none (.n .e (some (AV.int .i64 K)) .e)), nt := 186, H := { n := 96, t := .n (.n .e none (.n .e none (.n .e none (.n .e none (.n .e (some (ABlk.cells (factAV f) (Access.ty 43))) .e))))) none (.n (.n .e none (.n .e (some (ABlk.rows m 10 (fun j => factAV (F j)) (Access.ty 43))) .e)) none .e) }, df := [] })) ∧ EqI (pickF (X (Int.toNat i) 0) 30) f.t (EqI (pickF (Int.tdiv (X (Int.toNat i) 0) 30) 4) f.s (EqI (pickF (X (Int.toNat i) 1) 2) f.v (EqI (pickF (Int.tdiv (X (Int.toNat i) 1) 2) 3) f.w (EqI (2 * pickF (X (Int.toNat i) 1) 2 + pickF (Int.tdiv (X (Int.toNat i) 1) 3000) 2) f.o (EqI (pickF (Int.tdiv (X (Int.toNat i) 1) 6) 5 - 1) f.p (EqI (Int.tdiv (pickF (X (Int.toNat i) 0) 30) 10) f.d (EqI (pickF (X (Int.toNat i)
 2) 40) f.l (EqI (pickF (X (Int.toNat i) 2) 40 + pickF (Int.tdiv (X (Int.toNat i) 3) 4) 3 * pickF (Int.tdiv (X (Int.toNat i) 3) 12) 30) f.h (EqI (pickF (Int.tdiv (X (Int.toNat i) 1) 30) 100) f.b (EqN m m ((RowsLe m (fun j => factAV (F j)) fun j => factAV (F j)) ∧ EqN m m (EqN n n (RowsLe n (xRow X) (xRow X) ∧ EqI i i (Cond (decide (K < Int.ofNat m)) (Asks (decide (0 ≤ K) && decide (K < Int.ofNat m)) (Asks (decide (Int.toNat K < m)) (Cond (decide (Fact.t (F (Int.toNat K)) = f.t)) (Asks (decide (0 ≤ K) && decide (K < Int.ofNat m)) (Asks (decide (Int.toNat K < m)) (Cond (decide (Fact.s (F (Int.toNat K)) = f.s)) (Asks (inR .i64 (i + 1)) (EqN m m' ((RowsLe m (fun j => factAV (F j)) fun j => factAV (F' j)) ∧ EqN m m' (EqN n n (RowsLe n (xRow X) (xRow X) ∧ EqI (i + 1) i' Q))))) zz1))) zz1))) zz1)))))))))))))))))))))))))))))))))))))))))))))))))))))))))))))))))))))))))))) (Cond eN False (EqN m mN
 ((RowsLe m (fun j => factAV (F j)) fun j => factAV (FN j)) ∧ EqN m mN (EqN n n (RowsLe n (xRow X) (xRow X) ∧ EqI i iN True)))))) (Cond eN False (EqN m mN ((RowsLe m (fun j => factAV (F j)) fun j => factAV (FN j)) ∧ EqN m mN (EqN n n (RowsLe n (xRow X) (xRow X) ∧ EqI i iN True))))))) := by kernel_rfl
theorem made10_vc (n : Nat) (X : Nat → Nat → Int) (iN : Int) (eN : Bool) (mN : Nat) (FN : Nat → Fact) (Q : AV → Prop) : (kb [] [(3008, 12, s10 n X ⟨0, true, 0, FN⟩, e10 n X eN iN mN FN)] 10 [xAV n X] Q) = (LoopAt PP II false (loopOf II 10 3008) 12 { t := .n (.n (.n .e (some AV.nilSlice) .e) none .e) (some (AV.fslice n 4 (xRow X))) (.n (.n .e (some (AV.int .i64 0)) .e) none .e), nt := 186, H := { n := 13, t := .e }, df := [] } (GE.cond eN (GE.one (AExit.x 0 { t := .n (.n (.n .e (some AV.nilSlice) .e) none .e) (some (AV.fslice n 4 (xRow X))) (.n (.n .e (some (AV.int .i64 iN)) .e) none .e), nt := 186, H := { n := 13, t := .e }, df := [] })) (GE.one (AExit.x 0 { t := .n (.n (.n .e (some (AV.own 12 mN 10)) .e) none .e) (some (AV.fslice n 4 (xRow X))) (.n (.n .e (some (AV.int .i64 iN)) .e) none .e), nt := 186, H := { n := 13, t := .n .e none (.n (.n .e none (.n .e (some (ABlk.rows mN 10 (fun j => factAV (FN j)) (Access.ty 43))) .e)) none .e) }, df := [] })))
 ∧ EqN n n (RowsLe n (xRow X) (xRow X) ∧ Cond eN (Q AV.nilSlice) (Asks ((List.all (List.range.loop mN []) fun i => true) && decide (mN ≤ mN)) (Q (AV.fslice mN 10 fun j => factAV (FN j)))))) := by kernel_rfl
end Go.Sx
end
section
set_option maxRecDepth 1000000
namespace Go.Sx
open Go
theorem Cond.mkP {p : Prop} [Decidable p] {x y : Prop} (h : p → x) (k : ¬ p → y) : Cond (decide p) x y := Cond.mk (fun e => h (of_decide_eq_true e)) fun e => k (of_decide_eq_false e)
theorem Asks.mk' (b : Bool) (x : Prop) (h : b = true) (k : x) : Asks b x := Asks.mk h k
theorem xRow_le (X : Nat → Nat → Int) (σ : Nat → Nat) (j : Nat) : AVs.le σ (xRow X j) (xRow X j) := ⟨⟨rfl, rfl⟩, ⟨rfl, rfl⟩, ⟨rfl, rfl⟩, ⟨rfl, rfl⟩, trivial⟩
theorem xRows (n : Nat) (X : Nat → Nat → Int) : RowsLe n (xRow X) (xRow X) := RowsLe.same fun σ j => xRow_le X σ j
theorem fRows (m : Nat) (F : Nat → Fact) : RowsLe m (fun j => factAV (F j)) fun j => factAV (F j) := RowsLe.same fun σ j => factAV_le σ (F j)
theorem rows_of {m : Nat} {g : Nat → List AV} {F : Nat → Fact} (h : ∀ j, j < m → g j = factAV (F j)) : RowsLe m g fun j => factAV (F j) := fun j hj σ => by rw [h j hj]; exact factAV_le σ (F j)
theorem tdiv_inR {a k : Int} (h : inR .i64 a = true) (hk : 0 < k) : inR .i64 (Int.tdiv a k) = true := by
  rw [inR_iff] at *
  have key : ∀ b : Int, 0 ≤ b → 0 ≤ Int.tdiv b k ∧ Int.tdiv b k ≤ b := fun b hb => by
    rw [Int.tdiv_eq_ediv_of_nonneg hb]
    exact ⟨Int.ediv_nonneg hb (by omega), Int.ediv_le_self _ hb⟩
  by_cases ha : 0 ≤ a
  · have := key a ha; omega
  · have h1 := key (-a) (by omega)
    rw [Int.neg_tdiv] at h1
    omega
theorem ltF_iff {x f : Fact} : ltF x f = true ↔ x.t < f.t ∨ (x.t = f.t ∧ x.s < f.s) := by
  simp only [ltF, Bool.or_eq_true, Bool.and_eq_true, decide_eq_true_eq]
theorem ltF_not {x f : Fact} : ltF x f = false ↔ ¬ (x.t < f.t ∨ (x.t = f.t ∧ x.s < f.s)) := by
  rw [← ltF_iff]; cases ltF x f <;> simp
theorem atF_iff {x f : Fact} : atF x f = true ↔ x.t = f.t ∧ x.s = f.s := by
  simp only [atF, Bool.and_eq_true, decide_eq_true_eq]
theorem place_loop (n : Nat) (X : Nat → Nat → Int) (i : Int) (L : List Fact) (f : Fact) (hn : L.length ≤ 1000) :
    LoopAt PP II false (loopOf II 10 12034) 96 (s10b n X ⟨i, false, L.length, getL L⟩ f 0) (e10b n X ⟨i, false, L.length, getL L⟩ f (posL L f)) :=
  LoopAt.of (ι := Int) hII [] (lamT_ok PP II []) 1000 96 (fun k => 0 ≤ k ∧ k ≤ posL L f) (s10b n X ⟨i, false, L.length, getL L⟩ f) (fun _ => e10b n X ⟨i, false, L.length, getL L⟩ f (posL L f)) (fun k => (posL L f - k).toNat) (fun k => k + 1) 0 rfl ⟨Int.le_refl _, Int.natCast_nonneg _⟩ fun k hk => by
    refine (place_step n X i _ _ f _ k _).mpr ?_
    have hp := posL_le L f
    have e0 : Int.ofNat L.length = (L.length : Int) := rfl
    have same : ∀ {Z : Prop}, Z → EqI (Fact.t f) (Fact.t f) (EqI (Fact.s f) (Fact.s f) (EqI (Fact.v f) (Fact.v f) (EqI (Fact.w f) (Fact.w f) (EqI (Fact.o f) (Fact.o f) (EqI (Fact.p f) (Fact.p f) (EqI (Fact.d f) (Fact.d f) (EqI (Fact.l f) (Fact.l f) (EqI (Fact.h f) (Fact.h f) (EqI (Fact.b f) (Fact.b f)
        (EqN L.length L.length ((RowsLe L.length (fun j => factAV (getL L j)) fun j => factAV (getL L j)) ∧ EqN L.length L.length (EqN n n (RowsLe n (xRow X) (xRow X) ∧ EqI i i Z))))))))))))) := fun z =>
      EqI.mk rfl (EqI.mk rfl (EqI.mk rfl (EqI.mk rfl (EqI.mk rfl (EqI.mk rfl (EqI.mk rfl (EqI.mk rfl (EqI.mk rfl (EqI.mk rfl (EqN.mk rfl ⟨fRows _ _, EqN.mk rfl (EqN.mk rfl ⟨xRows _ _, EqI.mk rfl z⟩)⟩))))))))))
    by_cases hlt : k < posL L f
    · have h1 := posL_lt L f k.toNat (by omega)
      rw [ltF_iff] at h1
      have hb : (decide (0 ≤ k) && decide (k < Int.ofNat L.length)) = true := by simp only [Bool.and_eq_true, decide_eq_true_eq]; omega
      have hc : decide (Int.toNat k < L.length) = true := decide_eq_true (by omega)
      have hi : inR .i64 (k + 1) = true := inR_small (by omega) (by omega)
      have go : EqI (k + 1) (k + 1) ((0 ≤ k + 1 ∧ k + 1 ≤ posL L f) ∧ (posL L f - (k + 1)).toNat < (posL L f - k).toNat ∧ (e10b n X ⟨i, false, L.length, getL L⟩ f (posL L f)).pick = (e10b n X ⟨i, false, L.length, getL L⟩ f (posL L f)).pick) := EqI.mk rfl ⟨by omega, by omega, rfl⟩
      refine Cond.mkP (fun _ => Asks.mk hb (Asks.mk hc (Cond.mkP (fun h => Asks.mk hi (same go)) fun h => Asks.mk hb (Asks.mk hc (Cond.mkP (fun h2 => Asks.mk hb (Asks.mk hc (Cond.mkP (fun h3 => Asks.mk hi (same go)) fun h3 => ?_))) fun h2 => ?_))))) fun h => ?_
      · exact absurd h1 (by omega)
      · exact absurd h1 (by omega)
      · exact absurd h (by omega)
    · have hk' : k = posL L f := by omega
      have go : EqI k (posL L f) True := EqI.mk hk' trivial
      refine Cond.mkP (fun h0 => ?_) fun _ => same go
      have h1 := posL_at L f (by omega)
      rw [ltF_not] at h1
      have e1 : k.toNat = posL L f := by omega
      have hb : (decide (0 ≤ k) && decide (k < Int.ofNat L.length)) = true := by simp only [Bool.and_eq_true, decide_eq_true_eq]; omega
      have hc : decide (Int.toNat k < L.length) = true := decide_eq_true (by omega)
      rw [← e1] at h1
      refine Asks.mk hb (Asks.mk hc (Cond.mkP (fun h => absurd h (by omega)) fun h => Asks.mk hb (Asks.mk hc (Cond.mkP (fun h2 => Asks.mk hb (Asks.mk hc (Cond.mkP (fun h3 => absurd h3 (by omega)) fun h3 => same go))) fun h2 => same go))))
theorem place_loop0 (n : Nat) (X : Nat → Nat → Int) (i : Int) (m : Nat) (F : Nat → Fact) (f : Fact) :
    LoopAt PP II false (loopOf II 10 12034) 96 (s10b n X ⟨i, true, m, F⟩ f 0) (e10b n X ⟨i, true, m, F⟩ f 0) :=
  LoopAt.of (ι := Int) hII [] (lamT_ok PP II []) 1000 96 (fun k => k = 0) (s10b n X ⟨i, true, m, F⟩ f) (fun _ => e10b n X ⟨i, true, m, F⟩ f 0) (fun k => 0) (fun k => k + 1) 0 rfl rfl fun k hk => by
    refine (place_step0 n X i _ _ f _ k _).mpr ?_
    exact Cond.mkP (fun h => absurd h (by omega)) fun _ => EqI.mk rfl (EqI.mk rfl (EqI.mk rfl (EqI.mk rfl (EqI.mk rfl (EqI.mk rfl (EqI.mk rfl (EqI.mk rfl (EqI.mk rfl (EqI.mk rfl (EqN.mk rfl ⟨xRows _ _, EqI.mk rfl (EqI.mk hk trivial)⟩))))))))))
theorem ins_rowsA {K N : Nat} {F G : Nat → Fact} {f : Fact} (hN : N ≤ K + 1) (hG : ∀ i, G i = if i < K then F i else if i = K then f else F (i - 1)) :
    RowsLe N (fun i => bif Nat.blt i K then factAV (F (0 + i)) else List.take 10 (List.drop (0 + (i - K) * 10) (factAV f))) fun j => factAV (G j) := by
  refine rows_of fun j hj => ?_
  rw [hG]
  by_cases h : j < K
  · rw [if_pos h, (Nat.blt_eq ..).mpr h, cond_true, Nat.zero_add]
  · have hj : j = K := by omega
    have hb : Nat.blt j K = false := by
      cases hb : Nat.blt j K with
      | false => rfl
      | true => exact absurd ((Nat.blt_eq ..).mp hb) h
    rw [if_neg h, if_pos hj, hb, cond_false, hj, Nat.sub_self]
    rfl
theorem ins_rowsB {K N : Nat} {F G : Nat → Fact} {f : Fact} (hG : ∀ i, G i = if i < K then F i else if i = K then f else F (i - 1)) :
    RowsLe N (fun i => bif Nat.blt i K then factAV (F (0 + i)) else bif Nat.blt (i - K) 1 then List.take 10 (List.drop (0 + (i - K) * 10) (factAV f)) else factAV (F (K + (i - K - 1)))) fun j => factAV (G j) := by
  refine rows_of fun j hj => ?_
  rw [hG]
  by_cases h : j < K
  · rw [if_pos h, (Nat.blt_eq ..).mpr h, cond_true, Nat.zero_add]
  · have hb : Nat.blt j K = false := by
      cases hb : Nat.blt j K with
      | false => rfl
      | true => exact absurd ((Nat.blt_eq ..).mp hb) h
    rw [if_neg h, hb, cond_false]
    by_cases h2 : j = K
    · rw [if_pos h2, h2, Nat.sub_self]
      rfl
    · have hb2 : Nat.blt (j - K) 1 = false := by
        cases hb : Nat.blt (j - K) 1 with
        | false => rfl
        | true => have := (Nat.blt_eq ..).mp hb; omega
      rw [if_neg h2, hb2, cond_false]
      congr 2; omega
theorem made_tail (n : Nat) (X : Nat → Nat → Int) (i : Int) (L : List Fact) (f : Fact) (Q : Prop) (hi0 : 0 ≤ i) (h40 : i < 40) (hL : L.length ≤ 40) (hl : 0 < L.length) (hQ : Q) :
  Cond (decide (((posL L f : Nat) : Int) < Int.ofNat L.length)) (Asks (decide ((0 : Int) ≤ ((posL L f : Nat) : Int)) && decide (((posL L f : Nat) : Int) < Int.ofNat L.length)) (Asks (decide (Int.toNat ((posL L f : Nat) : Int) < L.length)) (Cond (decide (Fact.t (getL L (Int.toNat ((posL L f : Nat) : Int))) = Fact.t f)) (Asks (decide ((0 : Int) ≤ ((posL L f : Nat) : Int)) && decide (((posL L f : Nat) : Int) < Int.ofNat L.length)) (Asks (decide (Int.toNat ((posL L f : Nat) : Int) < L.length)) (Cond (decide (Fact.s (getL L (Int.toNat ((posL L f : Nat) : Int))) = Fact.s f)) (Asks (inR IntKind.i64 (i + (1 : Int))) (EqN L.length (insL L f).length ((RowsLe L.length (fun j => factAV (getL L j)) fun j => factAV (getL (insL L f) j)) ∧ EqN L.length (insL L f).length (EqN n n (RowsLe n (xRow X) (xRow X) ∧ EqI (i + (1 : Int)) (i + 1) Q))))) (Asks (decide ((0 : Int) ≤ ((posL L f :
   Nat) : Int)) && decide (((posL L f : Nat) : Int) ≤ ((posL L f : Nat) : Int)) && decide (((posL L f : Nat) : Int) ≤ Int.ofNat L.length) && decide ((0 : Nat) < L.length)) (Asks (decide ((0 : Int) ≤ ((posL L f : Nat) : Int)) && decide (((posL L f : Nat) : Int) ≤ Int.ofNat L.length) && decide (Int.ofNat L.length ≤ Int.ofNat L.length) && decide ((0 : Nat) < L.length)) (Asks (decide (Int.toNat ((posL L f : Nat) : Int) + Int.toNat (Int.ofNat L.length - ((posL L f : Nat) : Int)) ≤ L.length) && true && decide (((1 : Nat) + Int.toNat (Int.ofNat L.length - ((posL L f : Nat) : Int))) * (80 : Nat) ≤ (140737488355328 : Nat)) && true) (Cond (decide (Int.toNat (Int.ofNat L.length - ((posL L f : Nat) : Int)) = (0 : Nat))) (Asks (decide ((0 : Int) ≤ ((posL L f : Nat) : Int)) && decide (((posL L f : Nat) : Int) ≤ ((posL L f : Nat) : Int)) && decide (((posL L f : Nat) : Int) ≤ Int.ofNat L.length) &&
   decide ((0 : Nat) < L.length)) (Asks (decide (Int.toNat (((posL L f : Nat) : Int) - (0 : Int)) = Int.toNat (((posL L f : Nat) : Int) - (0 : Int))) && decide (some (Int.toNat (((posL L f : Nat) : Int) - (0 : Int))) = some (Int.toNat (((posL L f : Nat) : Int) - (0 : Int)))) && true) (Asks (decide ((0 : Nat) + Int.toNat (((posL L f : Nat) : Int) - (0 : Int)) ≤ L.length) && true && true && decide ((Int.toNat (((posL L f : Nat) : Int) - (0 : Int)) + (1 : Nat)) * (80 : Nat) ≤ (140737488355328 : Nat)) && true) (Cond (decide (Int.toNat (((posL L f : Nat) : Int) - (0 : Int)) = Int.toNat (((posL L f : Nat) : Int) - (0 : Int)))) (Asks (inR IntKind.i64 (i + (1 : Int))) (EqN (Int.toNat (((posL L f : Nat) : Int) - (0 : Int)) + (1 : Nat)) (insL L f).length ((RowsLe (Int.toNat (((posL L f : Nat) : Int) - (0 : Int)) + (1 : Nat)) (fun i => bif Nat.blt i (Int.toNat (((posL L f : Nat) : Int) - (0
   : Int))) then factAV (getL L ((0 : Nat) + i)) else List.take (10 : Nat) (List.drop ((0 : Nat) + (i - Int.toNat (((posL L f : Nat) : Int) - (0 : Int))) * (10 : Nat)) [AV.int IntKind.i64 (Fact.t f), AV.int IntKind.i64 (Fact.s f), AV.int IntKind.i64 (Fact.v f), AV.int IntKind.i64 (Fact.w f), AV.int IntKind.i64 (Fact.o f), AV.int IntKind.i64 (Fact.p f), AV.int IntKind.i64 (Fact.d f), AV.int IntKind.i64 (Fact.l f), AV.int IntKind.i64 (Fact.h f), AV.int IntKind.i64 (Fact.b f)])) fun j => factAV (getL (insL L f) j)) ∧ EqN (Int.toNat (((posL L f : Nat) : Int) - (0 : Int)) + (1 : Nat)) (insL L f).length (EqN n n (RowsLe n (xRow X) (xRow X) ∧ EqI (i + (1 : Int)) (i + 1) Q))))) (Asks (inR IntKind.i64 (i + (1 : Int))) (EqN (Int.toNat (((posL L f : Nat) : Int) - (0 : Int)) + (1 : Nat)) (insL L f).length ((RowsLe (Int.toNat (((posL L f : Nat) : Int) - (0 : Int)) + (1 : Nat))
   (fun i => bif Nat.blt i (Int.toNat (((posL L f : Nat) : Int) - (0 : Int))) then factAV (getL L ((0 : Nat) + i)) else List.take (10 : Nat) (List.drop ((0 : Nat) + (i - Int.toNat (((posL L f : Nat) : Int) - (0 : Int))) * (10 : Nat)) [AV.int IntKind.i64 (Fact.t f), AV.int IntKind.i64 (Fact.s f), AV.int IntKind.i64 (Fact.v f), AV.int IntKind.i64 (Fact.w f), AV.int IntKind.i64 (Fact.o f), AV.int IntKind.i64 (Fact.p f), AV.int IntKind.i64 (Fact.d f), AV.int IntKind.i64 (Fact.l f), AV.int IntKind.i64 (Fact.h f), AV.int IntKind.i64 (Fact.b f)])) fun j => factAV (getL (insL L f) j)) ∧ EqN (Int.toNat (((posL L f : Nat) : Int) - (0 : Int)) + (1 : Nat)) (insL L f).length (EqN n n (RowsLe n (xRow X) (xRow X) ∧ EqI (i + (1 : Int)) (i + 1) Q))))))))) (Asks (decide ((0 : Int) ≤ ((posL L f : Nat) : Int)) && decide (((posL L f : Nat) : Int) ≤ ((posL L f : Nat) : Int)) && decide (((posL L
   f : Nat) : Int) ≤ Int.ofNat L.length) && decide ((0 : Nat) < L.length)) (Asks (decide (Int.toNat (((posL L f : Nat) : Int) - (0 : Int)) = Int.toNat (((posL L f : Nat) : Int) - (0 : Int))) && decide (some (Int.toNat (((posL L f : Nat) : Int) - (0 : Int))) = some (Int.toNat (((posL L f : Nat) : Int) - (0 : Int)))) && true) (Asks (decide ((0 : Nat) + Int.toNat (((posL L f : Nat) : Int) - (0 : Int)) ≤ L.length) && decide ((1 : Nat) + Int.toNat (Int.ofNat L.length - ((posL L f : Nat) : Int)) ≤ (1 : Nat) + Int.toNat (Int.ofNat L.length - ((posL L f : Nat) : Int))) && true && decide ((Int.toNat (((posL L f : Nat) : Int) - (0 : Int)) + ((1 : Nat) + Int.toNat (Int.ofNat L.length - ((posL L f : Nat) : Int)))) * (80 : Nat) ≤ (140737488355328 : Nat)) && true) (Cond (decide ((1 : Nat) + Int.toNat (Int.ofNat L.length - ((posL L f : Nat) : Int)) = (0 : Nat))) (Asks (inR IntKind.i64 (i + (1 : Int))) (EqN (insL L f).length (0 : Nat) False)) (Cond (decide (Int.toNat (((posL L f : Nat) : Int) - (0 : Int)) = Int.toNat (((posL L f : Nat) : Int) - (0 : Int)))) (Asks (inR IntKind.i64 (i + (1 : Int))) (EqN (Int.toNat (((posL L f : Nat) : Int) - (0 : Int)) + ((1 : Nat) + Int.toNat (Int.ofNat L.length - ((posL L f : Nat) : Int)))) (insL L f).length ((RowsLe (Int.toNat (((posL L f : Nat) : Int) - (0 : Int)) + ((1 : Nat) + Int.toNat (Int.ofNat L.length - ((posL L f : Nat) : Int)))) (fun i => bif Nat.blt i (Int.toNat (((posL L f : Nat) : Int) - (0 : Int))) then factAV (getL L ((0 : Nat) + i)) else bif Nat.blt (i - Int.toNat (((posL L f : Nat) : Int) - (0 : Int))) (1 : Nat) then List.take (10 : Nat) (List.drop ((0 : Nat) + (i - Int.toNat (((posL L f : Nat) : Int) - (0 : Int))) * (10 : Nat)) [AV.int IntKind.i64 (Fact.t f), AV.int IntKind.i64 (Fact.s f), AV.int IntKind.i64 (Fact.v
   f), AV.int IntKind.i64 (Fact.w f), AV.int IntKind.i64 (Fact.o f), AV.int IntKind.i64 (Fact.p f), AV.int IntKind.i64 (Fact.d f), AV.int IntKind.i64 (Fact.l f), AV.int IntKind.i64 (Fact.h f), AV.int IntKind.i64 (Fact.b f)]) else factAV (getL L (Int.toNat ((posL L f : Nat) : Int) + (i - Int.toNat (((posL L f : Nat) : Int) - (0 : Int)) - (1 : Nat))))) fun j => factAV (getL (insL L f) j)) ∧ EqN (Int.toNat (((posL L f : Nat) : Int) - (0 : Int)) + ((1 : Nat) + Int.toNat (Int.ofNat L.length - ((posL L f : Nat) : Int)))) (insL L f).length (EqN n n (RowsLe n (xRow X) (xRow X) ∧ EqI (i + (1 : Int)) (i + 1) Q))))) (Asks (inR IntKind.i64 (i + (1 : Int))) (EqN (Int.toNat (((posL L f : Nat) : Int) - (0 : Int)) + ((1 : Nat) + Int.toNat (Int.ofNat L.length - ((posL L f : Nat) : Int)))) (insL L f).length ((RowsLe (Int.toNat (((posL L f : Nat) : Int) - (0 : Int)) + ((1 : Nat) +
   Int.toNat (Int.ofNat L.length - ((posL L f : Nat) : Int)))) (fun i => bif Nat.blt i (Int.toNat (((posL L f : Nat) : Int) - (0 : Int))) then factAV (getL L ((0 : Nat) + i)) else bif Nat.blt (i - Int.toNat (((posL L f : Nat) : Int) - (0 : Int))) (1 : Nat) then List.take (10 : Nat) (List.drop ((0 : Nat) + (i - Int.toNat (((posL L f : Nat) : Int) - (0 : Int))) * (10 : Nat)) [AV.int IntKind.i64 (Fact.t f), AV.int IntKind.i64 (Fact.s f), AV.int IntKind.i64 (Fact.v f), AV.int IntKind.i64 (Fact.w f), AV.int IntKind.i64 (Fact.o f), AV.int IntKind.i64 (Fact.p f), AV.int IntKind.i64 (Fact.d f), AV.int IntKind.i64 (Fact.l f), AV.int IntKind.i64 (Fact.h f), AV.int IntKind.i64 (Fact.b f)]) else factAV (getL L (Int.toNat ((posL L f : Nat) : Int) + (i - Int.toNat (((posL L f : Nat) : Int) - (0 : Int)) - (1 : Nat))))) fun j => factAV (getL (insL L f) j)) ∧ EqN (Int.toNat (((posL L f : Nat) : Int) - (0
   : Int)) + ((1 : Nat) + Int.toNat (Int.ofNat L.length - ((posL L f : Nat) : Int)))) (insL L f).length (EqN n n (RowsLe n (xRow X) (xRow X) ∧ EqI (i + (1 : Int)) (i + 1) Q))))))))))))))))) (Asks (decide ((0 : Int) ≤ ((posL L f : Nat) : Int)) && decide (((posL L f : Nat) : Int) ≤ ((posL L f : Nat) : Int)) && decide (((posL L f : Nat) : Int) ≤ Int.ofNat L.length) && decide ((0 : Nat) < L.length)) (Asks (decide ((0 : Int) ≤ ((posL L f : Nat) : Int)) && decide (((posL L f : Nat) : Int) ≤ Int.ofNat L.length) && decide (Int.ofNat L.length ≤ Int.ofNat L.length) && decide ((0 : Nat) < L.length)) (Asks (decide (Int.toNat ((posL L f : Nat) : Int) + Int.toNat (Int.ofNat L.length - ((posL L f : Nat) : Int)) ≤ L.length) && true && decide (((1 : Nat) + Int.toNat (Int.ofNat L.length - ((posL L f : Nat) : Int))) * (80 : Nat) ≤ (140737488355328 : Nat)) && true) (Cond (decide (Int.toNat
   (Int.ofNat L.length - ((posL L f : Nat) : Int)) = (0 : Nat))) (Asks (decide ((0 : Int) ≤ ((posL L f : Nat) : Int)) && decide (((posL L f : Nat) : Int) ≤ ((posL L f : Nat) : Int)) && decide (((posL L f : Nat) : Int) ≤ Int.ofNat L.length) && decide ((0 : Nat) < L.length)) (Asks (decide (Int.toNat (((posL L f : Nat) : Int) - (0 : Int)) = Int.toNat (((posL L f : Nat) : Int) - (0 : Int))) && decide (some (Int.toNat (((posL L f : Nat) : Int) - (0 : Int))) = some (Int.toNat (((posL L f : Nat) : Int) - (0 : Int)))) && true) (Asks (decide ((0 : Nat) + Int.toNat (((posL L f : Nat) : Int) - (0 : Int)) ≤ L.length) && true && true && decide ((Int.toNat (((posL L f : Nat) : Int) - (0 : Int)) + (1 : Nat)) * (80 : Nat) ≤ (140737488355328 : Nat)) && true) (Cond (decide (Int.toNat (((posL L f : Nat) : Int) - (0 : Int)) = Int.toNat (((posL L f : Nat) : Int) - (0 : Int)))) (Asks (inR IntKind.i64 (i + (1 : Int))) (EqN (Int.toNat (((posL L f : Nat) : Int) - (0 : Int)) + (1 : Nat)) (insL L f).length ((RowsLe (Int.toNat (((posL L f : Nat) : Int) - (0 : Int)) + (1 : Nat)) (fun i => bif Nat.blt i (Int.toNat (((posL L f : Nat) : Int) - (0 : Int))) then factAV (getL L ((0 : Nat) + i)) else List.take (10 : Nat) (List.drop ((0 : Nat) + (i - Int.toNat (((posL L f : Nat) : Int) - (0 : Int))) * (10 : Nat)) [AV.int IntKind.i64 (Fact.t f), AV.int IntKind.i64 (Fact.s f), AV.int IntKind.i64 (Fact.v f), AV.int IntKind.i64 (Fact.w f), AV.int IntKind.i64 (Fact.o f), AV.int IntKind.i64 (Fact.p f), AV.int IntKind.i64 (Fact.d f), AV.int IntKind.i64 (Fact.l f), AV.int IntKind.i64 (Fact.h f), AV.int IntKind.i64 (Fact.b f)])) fun j => factAV (getL (insL L f) j)) ∧ EqN (Int.toNat (((posL L f : Nat) : Int) - (0 : Int)) + (1 : Nat)) (insL L f).length (EqN n n (RowsLe n (xRow X) (xRow X) ∧ EqI (i + (1 : Int)) (i + 1) Q))))) (Asks (inR IntKind.i64 (i + (1 : Int))) (EqN (Int.toNat (((posL L f : Nat) : Int) - (0 : Int)) + (1 : Nat)) (insL L f).length ((RowsLe (Int.toNat (((posL L f : Nat) : Int) - (0 : Int)) + (1 : Nat)) (fun i => bif Nat.blt i (Int.toNat (((posL L f : Nat) : Int) - (0 : Int))) then factAV (getL L ((0 : Nat) + i)) else List.take (10 : Nat) (List.drop ((0 : Nat) + (i - Int.toNat (((posL L f : Nat) : Int) - (0 : Int))) * (10 : Nat)) [AV.int IntKind.i64 (Fact.t f), AV.int IntKind.i64 (Fact.s f), AV.int IntKind.i64 (Fact.v f), AV.int IntKind.i64 (Fact.w f), AV.int IntKind.i64 (Fact.o f), AV.int IntKind.i64 (Fact.p f), AV.int IntKind.i64 (Fact.d f), AV.int IntKind.i64 (Fact.l f), AV.int IntKind.i64 (Fact.h f), AV.int IntKind.i64 (Fact.b f)])) fun j => factAV (getL (insL L f) j)) ∧ EqN (Int.toNat (((posL L f : Nat) : Int) - (0 : Int)) + (1 : Nat)) (insL
   L f).length (EqN n n (RowsLe n (xRow X) (xRow X) ∧ EqI (i + (1 : Int)) (i + 1) Q))))))))) (Asks (decide ((0 : Int) ≤ ((posL L f : Nat) : Int)) && decide (((posL L f : Nat) : Int) ≤ ((posL L f : Nat) : Int)) && decide (((posL L f : Nat) : Int) ≤ Int.ofNat L.length) && decide ((0 : Nat) < L.length)) (Asks (decide (Int.toNat (((posL L f : Nat) : Int) - (0 : Int)) = Int.toNat (((posL L f : Nat) : Int) - (0 : Int))) && decide (some (Int.toNat (((posL L f : Nat) : Int) - (0 : Int))) = some (Int.toNat (((posL L f : Nat) : Int) - (0 : Int)))) && true) (Asks (decide ((0 : Nat) + Int.toNat (((posL L f : Nat) : Int) - (0 : Int)) ≤ L.length) && decide ((1 : Nat) + Int.toNat (Int.ofNat L.length - ((posL L f : Nat) : Int)) ≤ (1 : Nat) + Int.toNat (Int.ofNat L.length - ((posL L f : Nat) : Int))) && true && decide ((Int.toNat (((posL L f : Nat) : Int) - (0 : Int)) + ((1 : Nat) +
   Int.toNat (Int.ofNat L.length - ((posL L f : Nat) : Int)))) * (80 : Nat) ≤ (140737488355328 : Nat)) && true) (Cond (decide ((1 : Nat) + Int.toNat (Int.ofNat L.length - ((posL L f : Nat) : Int)) = (0 : Nat))) (Asks (inR IntKind.i64 (i + (1 : Int))) (EqN (insL L f).length (0 : Nat) False)) (Cond (decide (Int.toNat (((posL L f : Nat) : Int) - (0 : Int)) = Int.toNat (((posL L f : Nat) : Int) - (0 : Int)))) (Asks (inR IntKind.i64 (i + (1 : Int))) (EqN (Int.toNat (((posL L f : Nat) : Int) - (0 : Int)) + ((1 : Nat) + Int.toNat (Int.ofNat L.length - ((posL L f : Nat) : Int)))) (insL L f).length ((RowsLe (Int.toNat (((posL L f : Nat) : Int) - (0 : Int)) + ((1 : Nat) + Int.toNat (Int.ofNat L.length - ((posL L f : Nat) : Int)))) (fun i => bif Nat.blt i (Int.toNat (((posL L f : Nat) : Int) - (0 : Int))) then factAV (getL L ((0 : Nat) + i)) else bif Nat.blt (i - Int.toNat (((posL L
   f : Nat) : Int) - (0 : Int))) (1 : Nat) then List.take (10 : Nat) (List.drop ((0 : Nat) + (i - Int.toNat (((posL L f : Nat) : Int) - (0 : Int))) * (10 : Nat)) [AV.int IntKind.i64 (Fact.t f), AV.int IntKind.i64 (Fact.s f), AV.int IntKind.i64 (Fact.v f), AV.int IntKind.i64 (Fact.w f), AV.int IntKind.i64 (Fact.o f), AV.int IntKind.i64 (Fact.p f), AV.int IntKind.i64 (Fact.d f), AV.int IntKind.i64 (Fact.l f), AV.int IntKind.i64 (Fact.h f), AV.int IntKind.i64 (Fact.b f)]) else factAV (getL L (Int.toNat ((posL L f : Nat) : Int) + (i - Int.toNat (((posL L f : Nat) : Int) - (0 : Int)) - (1 : Nat))))) fun j => factAV (getL (insL L f) j)) ∧ EqN (Int.toNat (((posL L f : Nat) : Int) - (0 : Int)) + ((1 : Nat) + Int.toNat (Int.ofNat L.length - ((posL L f : Nat) : Int)))) (insL L f).length (EqN n n (RowsLe n (xRow X) (xRow X) ∧ EqI (i + (1 : Int)) (i + 1) Q))))) (Asks (inR IntKind.i64
   (i + (1 : Int))) (EqN (Int.toNat (((posL L f : Nat) : Int) - (0 : Int)) + ((1 : Nat) + Int.toNat (Int.ofNat L.length - ((posL L f : Nat) : Int)))) (insL L f).length ((RowsLe (Int.toNat (((posL L f : Nat) : Int) - (0 : Int)) + ((1 : Nat) + Int.toNat (Int.ofNat L.length - ((posL L f : Nat) : Int)))) (fun i => bif Nat.blt i (Int.toNat (((posL L f : Nat) : Int) - (0 : Int))) then factAV (getL L ((0 : Nat) + i)) else bif Nat.blt (i - Int.toNat (((posL L f : Nat) : Int) - (0 : Int))) (1 : Nat) then List.take (10 : Nat) (List.drop ((0 : Nat) + (i - Int.toNat (((posL L f : Nat) : Int) - (0 : Int))) * (10 : Nat)) [AV.int IntKind.i64 (Fact.t f), AV.int IntKind.i64 (Fact.s f), AV.int IntKind.i64 (Fact.v f), AV.int IntKind.i64 (Fact.w f), AV.int IntKind.i64 (Fact.o f), AV.int IntKind.i64 (Fact.p f), AV.int IntKind.i64 (Fact.d f), AV.int IntKind.i64 (Fact.l f), AV.int IntKind.i64 (Fact.h
   f), AV.int IntKind.i64 (Fact.b f)]) else factAV (getL L (Int.toNat ((posL L f : Nat) : Int) + (i - Int.toNat (((posL L f : Nat) : Int) - (0 : Int)) - (1 : Nat))))) fun j => factAV (getL (insL L f) j)) ∧ EqN (Int.toNat (((posL L f : Nat) : Int) - (0 : Int)) + ((1 : Nat) + Int.toNat (Int.ofNat L.length - ((posL L f : Nat) : Int)))) (insL L f).length (EqN n n (RowsLe n (xRow X) (xRow X) ∧ EqI (i + (1 : Int)) (i + 1) Q))))))))))))))))) (Asks (decide ((0 : Int) ≤ ((posL L f : Nat) : Int)) && decide (((posL L f : Nat) : Int) ≤ ((posL L f : Nat) : Int)) && decide (((posL L f : Nat) : Int) ≤ Int.ofNat L.length) && decide ((0 : Nat) < L.length)) (Asks (decide ((0 : Int) ≤ ((posL L f : Nat) : Int)) && decide (((posL L f : Nat) : Int) ≤ Int.ofNat L.length) && decide (Int.ofNat L.length ≤ Int.ofNat L.length) && decide ((0 : Nat) < L.length)) (Asks (decide (Int.toNat ((posL L f :
   Nat) : Int) + Int.toNat (Int.ofNat L.length - ((posL L f : Nat) : Int)) ≤ L.length) && true && decide (((1 : Nat) + Int.toNat (Int.ofNat L.length - ((posL L f : Nat) : Int))) * (80 : Nat) ≤ (140737488355328 : Nat)) && true) (Cond (decide (Int.toNat (Int.ofNat L.length - ((posL L f : Nat) : Int)) = (0 : Nat))) (Asks (decide ((0 : Int) ≤ ((posL L f : Nat) : Int)) && decide (((posL L f : Nat) : Int) ≤ ((posL L f : Nat) : Int)) && decide (((posL L f : Nat) : Int) ≤ Int.ofNat L.length) && decide ((0 : Nat) < L.length)) (Asks (decide (Int.toNat (((posL L f : Nat) : Int) - (0 : Int)) = Int.toNat (((posL L f : Nat) : Int) - (0 : Int))) && decide (some (Int.toNat (((posL L f : Nat) : Int) - (0 : Int))) = some (Int.toNat (((posL L f : Nat) : Int) - (0 : Int)))) && true) (Asks (decide ((0 : Nat) + Int.toNat (((posL L f : Nat) : Int) - (0 : Int)) ≤ L.length) && true && true && decide ((Int.toNat
   (((posL L f : Nat) : Int) - (0 : Int)) + (1 : Nat)) * (80 : Nat) ≤ (140737488355328 : Nat)) && true) (Cond (decide (Int.toNat (((posL L f : Nat) : Int) - (0 : Int)) = Int.toNat (((posL L f : Nat) : Int) - (0 : Int)))) (Asks (inR IntKind.i64 (i + (1 : Int))) (EqN (Int.toNat (((posL L f : Nat) : Int) - (0 : Int)) + (1 : Nat)) (insL L f).length ((RowsLe (Int.toNat (((posL L f : Nat) : Int) - (0 : Int)) + (1 : Nat)) (fun i => bif Nat.blt i (Int.toNat (((posL L f : Nat) : Int) - (0 : Int))) then factAV (getL L ((0 : Nat) + i)) else List.take (10 : Nat) (List.drop ((0 : Nat) + (i - Int.toNat (((posL L f : Nat) : Int) - (0 : Int))) * (10 : Nat)) [AV.int IntKind.i64 (Fact.t f), AV.int IntKind.i64 (Fact.s f), AV.int IntKind.i64 (Fact.v f), AV.int IntKind.i64 (Fact.w f), AV.int IntKind.i64 (Fact.o f), AV.int IntKind.i64 (Fact.p f), AV.int IntKind.i64 (Fact.d f), AV.int IntKind.i64
   (Fact.l f), AV.int IntKind.i64 (Fact.h f), AV.int IntKind.i64 (Fact.b f)])) fun j => factAV (getL (insL L f) j)) ∧ EqN (Int.toNat (((posL L f : Nat) : Int) - (0 : Int)) + (1 : Nat)) (insL L f).length (EqN n n (RowsLe n (xRow X) (xRow X) ∧ EqI (i + (1 : Int)) (i + 1) Q))))) (Asks (inR IntKind.i64 (i + (1 : Int))) (EqN (Int.toNat (((posL L f : Nat) : Int) - (0 : Int)) + (1 : Nat)) (insL L f).length ((RowsLe (Int.toNat (((posL L f : Nat) : Int) - (0 : Int)) + (1 : Nat)) (fun i => bif Nat.blt i (Int.toNat (((posL L f : Nat) : Int) - (0 : Int))) then factAV (getL L ((0 : Nat) + i)) else List.take (10 : Nat) (List.drop ((0 : Nat) + (i - Int.toNat (((posL L f : Nat) : Int) - (0 : Int))) * (10 : Nat)) [AV.int IntKind.i64 (Fact.t f), AV.int IntKind.i64 (Fact.s f), AV.int IntKind.i64 (Fact.v f), AV.int IntKind.i64 (Fact.w f), AV.int IntKind.i64 (Fact.o f), AV.int
   IntKind.i64 (Fact.p f), AV.int IntKind.i64 (Fact.d f), AV.int IntKind.i64 (Fact.l f), AV.int IntKind.i64 (Fact.h f), AV.int IntKind.i64 (Fact.b f)])) fun j => factAV (getL (insL L f) j)) ∧ EqN (Int.toNat (((posL L f : Nat) : Int) - (0 : Int)) + (1 : Nat)) (insL L f).length (EqN n n (RowsLe n (xRow X) (xRow X) ∧ EqI (i + (1 : Int)) (i + 1) Q))))))))) (Asks (decide ((0 : Int) ≤ ((posL L f : Nat) : Int)) && decide (((posL L f : Nat) : Int) ≤ ((posL L f : Nat) : Int)) && decide (((posL L f : Nat) : Int) ≤ Int.ofNat L.length) && decide ((0 : Nat) < L.length)) (Asks (decide (Int.toNat (((posL L f : Nat) : Int) - (0 : Int)) = Int.toNat (((posL L f : Nat) : Int) - (0 : Int))) && decide (some (Int.toNat (((posL L f : Nat) : Int) - (0 : Int))) = some (Int.toNat (((posL L f : Nat) : Int) - (0 : Int)))) && true) (Asks (decide ((0 : Nat) + Int.toNat (((posL L f : Nat) : Int) - (0 :
   Int)) ≤ L.length) && decide ((1 : Nat) + Int.toNat (Int.ofNat L.length - ((posL L f : Nat) : Int)) ≤ (1 : Nat) + Int.toNat (Int.ofNat L.length - ((posL L f : Nat) : Int))) && true && decide ((Int.toNat (((posL L f : Nat) : Int) - (0 : Int)) + ((1 : Nat) + Int.toNat (Int.ofNat L.length - ((posL L f : Nat) : Int)))) * (80 : Nat) ≤ (140737488355328 : Nat)) && true) (Cond (decide ((1 : Nat) + Int.toNat (Int.ofNat L.length - ((posL L f : Nat) : Int)) = (0 : Nat))) (Asks (inR IntKind.i64 (i + (1 : Int))) (EqN (insL L f).length (0 : Nat) False)) (Cond (decide (Int.toNat (((posL L f : Nat) : Int) - (0 : Int)) = Int.toNat (((posL L f : Nat) : Int) - (0 : Int)))) (Asks (inR IntKind.i64 (i + (1 : Int))) (EqN (Int.toNat (((posL L f : Nat) : Int) - (0 : Int)) + ((1 : Nat) + Int.toNat (Int.ofNat L.length - ((posL L f : Nat) : Int)))) (insL L f).length ((RowsLe (Int.toNat (((posL L f
   : Nat) : Int) - (0 : Int)) + ((1 : Nat) + Int.toNat (Int.ofNat L.length - ((posL L f : Nat) : Int)))) (fun i => bif Nat.blt i (Int.toNat (((posL L f : Nat) : Int) - (0 : Int))) then factAV (getL L ((0 : Nat) + i)) else bif Nat.blt (i - Int.toNat (((posL L f : Nat) : Int) - (0 : Int))) (1 : Nat) then List.take (10 : Nat) (List.drop ((0 : Nat) + (i - Int.toNat (((posL L f : Nat) : Int) - (0 : Int))) * (10 : Nat)) [AV.int IntKind.i64 (Fact.t f), AV.int IntKind.i64 (Fact.s f), AV.int IntKind.i64 (Fact.v f), AV.int IntKind.i64 (Fact.w f), AV.int IntKind.i64 (Fact.o f), AV.int IntKind.i64 (Fact.p f), AV.int IntKind.i64 (Fact.d f), AV.int IntKind.i64 (Fact.l f), AV.int IntKind.i64 (Fact.h f), AV.int IntKind.i64 (Fact.b f)]) else factAV (getL L (Int.toNat ((posL L f : Nat) : Int) + (i - Int.toNat (((posL L f : Nat) : Int) - (0 : Int)) - (1 : Nat))))) fun j => factAV (getL (insL L f) j)) ∧ EqN
   (Int.toNat (((posL L f : Nat) : Int) - (0 : Int)) + ((1 : Nat) + Int.toNat (Int.ofNat L.length - ((posL L f : Nat) : Int)))) (insL L f).length (EqN n n (RowsLe n (xRow X) (xRow X) ∧ EqI (i + (1 : Int)) (i + 1) Q))))) (Asks (inR IntKind.i64 (i + (1 : Int))) (EqN (Int.toNat (((posL L f : Nat) : Int) - (0 : Int)) + ((1 : Nat) + Int.toNat (Int.ofNat L.length - ((posL L f : Nat) : Int)))) (insL L f).length ((RowsLe (Int.toNat (((posL L f : Nat) : Int) - (0 : Int)) + ((1 : Nat) + Int.toNat (Int.ofNat L.length - ((posL L f : Nat) : Int)))) (fun i => bif Nat.blt i (Int.toNat (((posL L f : Nat) : Int) - (0 : Int))) then factAV (getL L ((0 : Nat) + i)) else bif Nat.blt (i - Int.toNat (((posL L f : Nat) : Int) - (0 : Int))) (1 : Nat) then List.take (10 : Nat) (List.drop ((0 : Nat) + (i - Int.toNat (((posL L f : Nat) : Int) - (0 : Int))) * (10 : Nat)) [AV.int IntKind.i64
   (Fact.t f), AV.int IntKind.i64 (Fact.s f), AV.int IntKind.i64 (Fact.v f), AV.int IntKind.i64 (Fact.w f), AV.int IntKind.i64 (Fact.o f), AV.int IntKind.i64 (Fact.p f), AV.int IntKind.i64 (Fact.d f), AV.int IntKind.i64 (Fact.l f), AV.int IntKind.i64 (Fact.h f), AV.int IntKind.i64 (Fact.b f)]) else factAV (getL L (Int.toNat ((posL L f : Nat) : Int) + (i - Int.toNat (((posL L f : Nat) : Int) - (0 : Int)) - (1 : Nat))))) fun j => factAV (getL (insL L f) j)) ∧ EqN (Int.toNat (((posL L f : Nat) : Int) - (0 : Int)) + ((1 : Nat) + Int.toNat (Int.ofNat L.length - ((posL L f : Nat) : Int)))) (insL L f).length (EqN n n (RowsLe n (xRow X) (xRow X) ∧ EqI (i + (1 : Int)) (i + 1) Q)))))))))))))) := by
  have hp := posL_le L f
  have hat := posL_at L f
  rw [ltF_not] at hat
  have heq := insL_eq L f
  have em : Int.ofNat L.length = (L.length : Int) := rfl
  have ek : Int.toNat ((posL L f : Nat) : Int) = posL L f := rfl
  have ek0 : Int.toNat (((posL L f : Nat) : Int) - 0) = posL L f := by omega
  have emk : Int.toNat (Int.ofNat L.length - ((posL L f : Nat) : Int)) = L.length - posL L f := by omega
  have hi : inR .i64 (i + 1) = true := inR_small (by omega) (by omega)
  rw [ek0, emk, ek]
  by_cases hd : posL L f < L.length ∧ (getL L (posL L f)).t = f.t ∧ (getL L (posL L f)).s = f.s
  · have hins : insL L f = L := by
      rw [heq, (Nat.blt_eq ..).mpr hd.1, atF_iff.2 hd.2]; rfl
    rw [hins]
    have hb : (decide ((0 : Int) ≤ ((posL L f : Nat) : Int)) && decide (((posL L f : Nat) : Int) < Int.ofNat L.length)) = true := by simp only [Bool.and_eq_true, decide_eq_true_eq]; omega
    have hc : decide (posL L f < L.length) = true := decide_eq_true hd.1
    refine Cond.mkP (fun _ => Asks.mk hb (Asks.mk hc ?_)) fun h => absurd h (by omega)
    refine Cond.mkP (fun _ => Asks.mk hb (Asks.mk hc ?_)) fun h => absurd hd.2.1 h
    refine Cond.mkP (fun _ => ?_) fun h => absurd hd.2.2 h
    refine Asks.mk' _ _ hi ?_
    refine EqN.mk rfl ⟨fRows _ _, ?_⟩
    refine EqN.mk rfl (EqN.mk rfl ⟨xRows _ _, EqI.mk rfl hQ⟩)
  · have hno : (Nat.blt (posL L f) L.length && atF (getL L (posL L f)) f) = false := by
      cases hx : (Nat.blt (posL L f) L.length && atF (getL L (posL L f)) f) with
      | false => rfl
      | true =>
        rw [Bool.and_eq_true, Nat.blt_eq, atF_iff] at hx
        exact absurd hx hd
    have hget := insL_get hno
    have hlen := insL_len hno
    rw [hlen]
    generalize posL L f = K at *
    generalize insL L f = L' at *
    generalize getL L = F at *
    generalize L.length = m at *
    clear hno heq hat
    have end1 : ∀ {N : Nat} {g : Nat → List AV}, N = m + 1 → RowsLe N g (fun j => factAV (getL L' j)) → Asks (inR .i64 (i + 1)) (EqN N (m + 1) ((RowsLe N g fun j => factAV (getL L' j)) ∧ EqN N (m + 1) (EqN n n (RowsLe n (xRow X) (xRow X) ∧ EqI (i + 1) (i + 1) Q)))) := fun h r =>
      Asks.mk' _ _ hi (EqN.mk h ⟨r, EqN.mk h (EqN.mk rfl ⟨xRows _ _, EqI.mk rfl hQ⟩)⟩)
    repeat' (first
      | refine Asks.mk' _ _ (by simp only [Bool.and_eq_true, Bool.and_true, decide_eq_true_eq]; omega) ?_
      | refine Asks.mk' _ _ (by simp) ?_
      | exact end1 (by omega) (ins_rowsA (by omega) hget)
      | exact end1 (by omega) (ins_rowsB hget)
      | refine Cond.mkP (fun h => ?_) fun h => ?_
      | omega
      | exact absurd ‹_› (by omega))
def xOk (X : Nat → Nat → Int) (j : Nat) : Prop := inR .i64 (X j 0) = true ∧ inR .i64 (X j 1) = true ∧ inR .i64 (X j 2) = true ∧ inR .i64 (X j 3) = true
theorem made_next (n : Nat) (X : Nat → Nat → Int) (i : Int) (j : Nat) (hij : i = (j : Int)) (L : List Fact) (eN : Bool) (iN : Int) (mN : Nat) (FN : Nat → Fact) (Q : Prop) (f : Fact) (hf : f = mkFact (X j 0) (X j 1) (X j 2) (X j 3)) (hx : xOk X j) (hj : j < n) (h40 : j < 40) (hL : L.length ≤ 40) (h0 : L ≠ []) (hQ : Q) :
    kr [kPick29] [(12034, 96, s10b n X ⟨i, false, L.length, getL L⟩ f 0, e10b n X ⟨i, false, L.length, getL L⟩ f (posL L f))] 10 3008 12 (s10 n X) (fun _ => e10 n X eN iN mN FN) (fun _ => ⟨i + 1, false, (insL L f).length, getL (insL L f)⟩) Q ⟨i, false, L.length, getL L⟩ := by
  refine (made_step n X i L.length _ (getL L) _ f _ _ iN eN mN FN Q).mpr ?_
  have hl : 0 < L.length := List.length_pos_iff.2 h0
  have e1 : Int.toNat i = j := by omega
  rw [e1]
  obtain ⟨x0, x1, x2, x3⟩ := hx
  have hp := posL_le L f
  have hat := posL_at L f
  rw [ltF_not] at hat
  have hget : (Nat.blt (posL L f) L.length && atF (getL L (posL L f)) f) = false → ∀ i, getL (insL L f) i = if i < posL L f then getL L i else if i = posL L f then f else getL L (i - 1) := fun h i => insL_get h i
  have hlen : (Nat.blt (posL L f) L.length && atF (getL L (posL L f)) f) = false → (insL L f).length = L.length + 1 := insL_len
  have heq := insL_eq L f
  have hloop := place_loop n X i L f (by omega)
  have h1 := pickF_lt (c := X j 0) (n := 30) (by omega)
  have h3 := pickF_lt (c := X j 1) (n := 2) (by omega)
  have h5 := pickF_lt (c := Int.tdiv (X j 1) 3000) (n := 2) (by omega)
  have h6 := pickF_lt (c := Int.tdiv (X j 1) 6) (n := 5) (by omega)
  have h8 := pickF_lt (c := X j 2) (n := 40) (by omega)
  have h8b := pickF_lt (c := X j 2) (n := 2199023255552) (by omega)
  have h9 := pickF_lt (c := Int.tdiv (X j 3) 4) (n := 3) (by omega)
  have h10 := pickF_lt (c := Int.tdiv (X j 3) 12) (n := 30) (by omega)
  have h11 := mul_small h9.1 h9.2 h10.1 h10.2
  have h12 : 0 ≤ Int.tdiv (pickF (X j 0) 30) 10 ∧ Int.tdiv (pickF (X j 0) 30) 10 ≤ 3 := by
    rw [Int.tdiv_eq_ediv_of_nonneg h1.1]; omega
  have t1 := tdiv_inR x0 (k := 30) (by omega)
  have t2 := tdiv_inR x1 (k := 2) (by omega)
  have t3 := tdiv_inR x1 (k := 6) (by omega)
  have t4 := tdiv_inR x1 (k := 30) (by omega)
  have t5 := tdiv_inR x1 (k := 3000) (by omega)
  have t6 := tdiv_inR x3 (k := 4) (by omega)
  have t7 := tdiv_inR x3 (k := 12) (by omega)
  have hb : (decide ((0 : Int) ≤ i) && decide (i < Int.ofNat n)) = true := by simp only [Bool.and_eq_true, decide_eq_true_eq]; show 0 ≤ i ∧ i < (n : Int); omega
  have en : Int.ofNat n = (n : Int) := rfl
  have em : Int.ofNat L.length = (L.length : Int) := rfl
  refine Cond.mkP (fun _ => ?_) fun h => absurd h (by omega)
  refine Cond.mkP (fun _ => ?_) fun h => absurd h (by omega)
  repeat' (first
    | refine Asks.mk (by first | exact hb | exact decide_eq_true rfl | (rw [x0]; rfl) | (rw [x1]; rfl) | (rw [x2]; rfl) | (rw [x3]; rfl) | exact t1 | exact t2 | exact t3 | exact t4 | exact t5 | exact t6 | exact t7 | (rw [t1]; rfl) | (rw [t2]; rfl) | (rw [t3]; rfl) | (rw [t4]; rfl) | (rw [t5]; rfl) | (rw [t6]; rfl) | (rw [t7]; rfl) | exact inR_small (by omega) (by omega)) ?_
    | (refine Cond.mkP (p := pickF (X j 3) 4 = 3) (fun hc => ?_) fun hc => ?_))
  all_goals
    refine ⟨hloop, ?_⟩
    have fl : f.l = mkLow (X j 2) (X j 3) := by rw [hf]; rfl
    unfold mkLow at fl
    first
      | rw [decide_eq_true hc] at fl
      | rw [decide_eq_false hc] at fl
    simp only at fl
    have fh : f.h = f.l + pickF (Int.tdiv (X j 3) 4) 3 * pickF (Int.tdiv (X j 3) 12) 30 := by rw [hf]; rfl
    refine EqI.mk (by rw [hf]; rfl) (EqI.mk (by rw [hf]; rfl) (EqI.mk (by rw [hf]; rfl) (EqI.mk (by rw [hf]; rfl) (EqI.mk (by rw [hf]; rfl) (EqI.mk (by rw [hf]; rfl) (EqI.mk (by rw [hf]; rfl) (EqI.mk (by rw [fl]) (EqI.mk (by rw [fh, fl]) (EqI.mk (by rw [hf]; rfl) ?_)))))))))
    refine EqN.mk rfl ⟨fRows _ _, EqN.mk rfl (EqN.mk rfl ⟨xRows _ _, EqI.mk rfl ?_⟩)⟩
    clear h1 h3 h5 h6 h8 h8b h9 h10 h11 h12 t1 t2 t3 t4 t5 t6 t7 x0 x1 x2 x3 fl fh hc hloop
    exact made_tail n X i L f Q (by omega) (by omega) hL hl hQ
end Go.Sx
end
section
set_option maxRecDepth 1000000
namespace Go.Sx
open Go
theorem LoopAt.ofT {P : Program} {I : Info} (hI : I.Ok P) (ks : List (Known P I)) (fuel : Nat) {ι : Type} (T : ι → LTab) {c : Code} {ir : Bool} (n0 : Nat) (J : ι → Prop) (S : ι → St) (E : ι → GE) (μ : ι → Nat) (nx : ι → ι) (i0 : ι)
    (hI0 : Nat.ble I.G n0 = true) (hJ : J i0)
    (step : ∀ i, J i → krun ks (lamT P I (T i)) fuel ir (.code c) (S i) (nextK n0 S E nx (J (nx i) ∧ μ (nx i) < μ i ∧ (E (nx i)).pick = (E i).pick) i)) : LoopAt P I ir c n0 (S i0) (E i0) where
  h s0 hn0 hs := by
    subst hn0
    refine loop_gives (S := S) (E := fun i => (E i).pick) (J := J) μ (Nat.le_of_ble_eq_true hI0) hJ hs fun i hi => ?_
    obtain ⟨e, h1, h2⟩ := krun_ok hI ks (lamT_ok P I (T i)) fuel ir _ _ _ (step i hi)
    refine ⟨e, h2, ?_⟩
    cases e with
    | n s =>
      obtain ⟨k1, k2, k3, k4⟩ := StLq.ok (K := J (nx i) ∧ μ (nx i) < μ i ∧ (E (nx i)).pick = (E i).pick) h1
      exact ⟨nx i, k2, k3, k1, k4⟩
    | x b s => exact GE.meets_ok (g := E i) h1
    | g b s => exact GE.meets_ok (g := E i) h1
    | r s => exact GE.meets_ok (g := E i) h1
    | p a s => exact (h1 : False).elim
theorem made_next0 (n : Nat) (X : Nat → Nat → Int) (i : Int) (m : Nat) (F : Nat → Fact) (eN : Bool) (iN : Int) (mN : Nat) (FN : Nat → Fact) (Q : Prop) (f : Fact) (hf : f = mkFact (X 0 0) (X 0 1) (X 0 2) (X 0 3)) (hx : xOk X 0) (hi : i = 0) (hn : 0 < n) (hQ : Q) :
    kr [kPick29] [(12034, 96, s10b n X ⟨i, true, m, F⟩ f 0, e10b n X ⟨i, true, m, F⟩ f 0)] 10 3008 12 (s10 n X) (fun _ => e10 n X eN iN mN FN) (fun _ => ⟨i + 1, false, 1, getL [f]⟩) Q ⟨i, true, m, F⟩ := by
  refine (made_step0 n X i m 1 F (getL [f]) f (i + 1) iN eN mN FN Q).mpr ?_
  have e1 : Int.toNat i = 0 := by omega
  rw [e1]
  obtain ⟨x0, x1, x2, x3⟩ := hx
  have hloop := place_loop0 n X i m F f
  have h1 := pickF_lt (c := X 0 0) (n := 30) (by omega)
  have h3 := pickF_lt (c := X 0 1) (n := 2) (by omega)
  have h5 := pickF_lt (c := Int.tdiv (X 0 1) 3000) (n := 2) (by omega)
  have h6 := pickF_lt (c := Int.tdiv (X 0 1) 6) (n := 5) (by omega)
  have h8 := pickF_lt (c := X 0 2) (n := 40) (by omega)
  have h8b := pickF_lt (c := X 0 2) (n := 2199023255552) (by omega)
  have h9 := pickF_lt (c := Int.tdiv (X 0 3) 4) (n := 3) (by omega)
  have h10 := pickF_lt (c := Int.tdiv (X 0 3) 12) (n := 30) (by omega)
  have h11 := mul_small h9.1 h9.2 h10.1 h10.2
  have h12 : 0 ≤ Int.tdiv (pickF (X 0 0) 30) 10 ∧ Int.tdiv (pickF (X 0 0) 30) 10 ≤ 3 := by
    rw [Int.tdiv_eq_ediv_of_nonneg h1.1]; omega
  have t1 := tdiv_inR x0 (k := 30) (by omega)
  have t2 := tdiv_inR x1 (k := 2) (by omega)
  have t3 := tdiv_inR x1 (k := 6) (by omega)
  have t4 := tdiv_inR x1 (k := 30) (by omega)
  have t5 := tdiv_inR x1 (k := 3000) (by omega)
  have t6 := tdiv_inR x3 (k := 4) (by omega)
  have t7 := tdiv_inR x3 (k := 12) (by omega)
  have en : Int.ofNat n = (n : Int) := rfl
  have hb : (decide ((0 : Int) ≤ i) && decide (i < Int.ofNat n)) = true := by simp only [Bool.and_eq_true, decide_eq_true_eq]; omega
  have hi1 : inR .i64 (i + 1) = true := inR_small (by omega) (by omega)
  refine Cond.mkP (fun _ => ?_) fun h => absurd h (by omega)
  refine Cond.mkP (fun _ => ?_) fun h => absurd h (by omega)
  repeat' (first
    | refine Asks.mk (by first | exact hb | exact decide_eq_true rfl | (rw [x0]; rfl) | (rw [x1]; rfl) | (rw [x2]; rfl) | (rw [x3]; rfl) | exact t1 | exact t2 | exact t3 | exact t4 | exact t5 | exact t6 | exact t7 | (rw [t1]; rfl) | (rw [t2]; rfl) | (rw [t3]; rfl) | (rw [t4]; rfl) | (rw [t5]; rfl) | (rw [t6]; rfl) | (rw [t7]; rfl) | exact inR_small (by omega) (by omega)) ?_
    | (refine Cond.mkP (p := pickF (X 0 3) 4 = 3) (fun hc => ?_) fun hc => ?_))
  all_goals
    refine ⟨hloop, ?_⟩
    have fl : f.l = mkLow (X 0 2) (X 0 3) := by rw [hf]; rfl
    unfold mkLow at fl
    first
      | rw [decide_eq_true hc] at fl
      | rw [decide_eq_false hc] at fl
    simp only at fl
    have fh : f.h = f.l + pickF (Int.tdiv (X 0 3) 4) 3 * pickF (Int.tdiv (X 0 3) 12) 30 := by rw [hf]; rfl
    refine EqI.mk (by rw [hf]; rfl) (EqI.mk (by rw [hf]; rfl) (EqI.mk (by rw [hf]; rfl) (EqI.mk (by rw [hf]; rfl) (EqI.mk (by rw [hf]; rfl) (EqI.mk (by rw [hf]; rfl) (EqI.mk (by rw [hf]; rfl) (EqI.mk (by rw [fl]) (EqI.mk (by rw [fh, fl]) (EqI.mk (by rw [hf]; rfl) ?_)))))))))
    refine EqN.mk rfl ⟨xRows _ _, EqI.mk rfl ?_⟩
    refine Asks.mk' _ _ hi1 ?_
    refine EqN.mk rfl ⟨rows_of fun j hj => ?_, EqN.mk rfl (EqN.mk rfl ⟨xRows _ _, EqI.mk rfl hQ⟩)⟩
    have hj : j = 0 := by omega
    subst hj
    rfl
def madeAt (X : Nat → Nat → Int) (j : Nat) : Made := ⟨j, Nat.beq j 0, (madeL X j).length, getL (madeL X j)⟩
theorem insL_ne (l : List Fact) (f : Fact) : insL l f ≠ [] := by
  cases l with
  | nil => simp [insL]
  | cons x l => unfold insL; split <;> (try split) <;> simp
theorem madeL_ne (X : Nat → Nat → Int) {j : Nat} (h : 0 < j) : madeL X j ≠ [] := by
  cases j with
  | zero => omega
  | succ j => exact insL_ne _ _
theorem made_exit (n : Nat) (X : Nat → Nat → Int) (j : Nat) (T : LTab) (nx : Made → Made) (i' : Int) (m' : Nat) (F' : Nat → Fact) (Q : Prop) (hj : j = min n 40) (hT : T = [(12034, 96, s10b n X (madeAt X j) zeroFact 0, e10b n X (madeAt X j) zeroFact 0)]) (hnx : nx = fun _ => ⟨i', false, m', F'⟩) :
    kr [kPick29] T 10 3008 12 (s10 n X) (fun _ => e10 n X (madeAt X j).e (madeAt X j).i (madeAt X j).m (madeAt X j).F) nx Q (madeAt X j) := by
  subst hT hnx
  have en : Int.ofNat n = (n : Int) := rfl
  by_cases h0 : j = 0
  · have e : madeAt X j = ⟨(madeAt X j).i, true, (madeAt X j).m, (madeAt X j).F⟩ := by subst h0; rfl
    have h0i : (madeAt X j).i = 0 := by subst h0; rfl
    rw [e]
    generalize (madeAt X j).i = i at *
    generalize (madeAt X j).m = m at *
    generalize (madeAt X j).F = F at *
    refine (made_step0 n X i m m' F F' zeroFact i' i true m F Q).mpr ?_
    refine Cond.mkP (fun h => absurd h (by omega)) fun _ => ?_
    exact EqN.mk rfl ⟨xRows _ _, EqI.mk rfl trivial⟩
  · have e : madeAt X j = ⟨(madeAt X j).i, false, (madeAt X j).m, (madeAt X j).F⟩ := by
      unfold madeAt
      have : Nat.beq j 0 = false := by
        cases hb : Nat.beq j 0 with
        | false => rfl
        | true => exact absurd (Nat.eq_of_beq_eq_true hb) h0
      rw [this]
    have h0i : (madeAt X j).i = (j : Int) := rfl
    rw [e]
    generalize (madeAt X j).i = i at *
    generalize (madeAt X j).m = m at *
    generalize (madeAt X j).F = F at *
    have done : EqN m m ((RowsLe m (fun j => factAV (F j)) fun j => factAV (F j)) ∧ EqN m m (EqN n n (RowsLe n (xRow X) (xRow X) ∧ EqI i i True))) := EqN.mk rfl ⟨fRows _ _, EqN.mk rfl (EqN.mk rfl ⟨xRows _ _, EqI.mk rfl trivial⟩)⟩
    refine (made_step n X i m m' F F' zeroFact 0 i' i false m F Q).mpr ?_
    refine Cond.mkP (fun h => ?_) fun _ => done
    exact Cond.mkP (fun h2 => absurd h2 (by omega)) fun _ => done
theorem made_loop (n : Nat) (X : Nat → Nat → Int) (hx : ∀ j, j < n → xOk X j) :
    LoopAt PP II false (loopOf II 10 3008) 12 (s10 n X (madeAt X 0)) (e10 n X (madeAt X (min n 40)).e (madeAt X (min n 40)).i (madeAt X (min n 40)).m (madeAt X (min n 40)).F) := by
  have key := LoopAt.ofT (ι := Nat) hII [kPick29] 1000
    (fun j => [(12034, 96, s10b n X (madeAt X j) (bif Nat.beq j (min n 40) then zeroFact else mkFact (X j 0) (X j 1) (X j 2) (X j 3)) 0, e10b n X (madeAt X j) (bif Nat.beq j (min n 40) then zeroFact else mkFact (X j 0) (X j 1) (X j 2) (X j 3)) (bif Nat.beq j (min n 40) then 0 else bif Nat.beq j 0 then 0 else (posL (madeL X j) (mkFact (X j 0) (X j 1) (X j 2) (X j 3)) : Int)))])
    (c := loopOf II 10 3008) (ir := false) 12 (fun j => j ≤ min n 40) (fun j => s10 n X (madeAt X j)) (fun _ => e10 n X (madeAt X (min n 40)).e (madeAt X (min n 40)).i (madeAt X (min n 40)).m (madeAt X (min n 40)).F)
    (fun j => min n 40 - j) (fun j => j + 1) 0 rfl (Nat.zero_le _) ?_
  · exact key
  intro j hj
  by_cases hN : j = min n 40
  · have hb : Nat.beq j (min n 40) = true := by rw [← hN]; exact Nat.beq_refl j
    simp only [hb, cond_true]
    have := made_exit n X j _ _ (((j + 1 : Nat) : Int)) (madeL X (j + 1)).length (getL (madeL X (j + 1))) ((j + 1 ≤ min n 40) ∧ min n 40 - (j + 1) < min n 40 - j ∧ True) hN rfl rfl
    rw [← hN]
    rw [← hN] at this
    exact this
  · have hb : Nat.beq j (min n 40) = false := by
      cases hb : Nat.beq j (min n 40) with
      | false => rfl
      | true => exact absurd (Nat.eq_of_beq_eq_true hb) hN
    simp only [hb, cond_false]
    have hj2 : j < n ∧ j < 40 := by omega
    have hq : (j + 1 ≤ min n 40) ∧ min n 40 - (j + 1) < min n 40 - j ∧ True := ⟨by omega, by omega, trivial⟩
    generalize (madeAt X (min n 40)).e = eN
    have hiN : (madeAt X (min n 40)).i = ((min n 40 : Nat) : Int) := rfl
    by_cases h0 : j = 0
    · subst h0
      exact made_next0 n X 0 0 (getL []) eN _ _ _ _ _ rfl (hx 0 hj2.1) rfl hj2.1 hq
    · have hb0 : Nat.beq j 0 = false := by
        cases hb : Nat.beq j 0 with
        | false => rfl
        | true => exact absurd (Nat.eq_of_beq_eq_true hb) h0
      have e1 : madeAt X j = ⟨(j : Int), false, (madeL X j).length, getL (madeL X j)⟩ := by unfold madeAt; rw [hb0]
      have e2 : madeAt X (j + 1) = ⟨(j : Int) + 1, false, (insL (madeL X j) (mkFact (X j 0) (X j 1) (X j 2) (X j 3))).length, getL (insL (madeL X j) (mkFact (X j 0) (X j 1) (X j 2) (X j 3)))⟩ := rfl
      rw [hiN]
      generalize (madeAt X (min n 40)).m = mN
      generalize (madeAt X (min n 40)).F = FN
      have hlen := madeL_len X j
      have := made_next n X (j : Int) j rfl (madeL X j) eN ((min n 40 : Nat) : Int) mN FN _ (mkFact (X j 0) (X j 1) (X j 2) (X j 3)) rfl (hx j hj2.1) hj2.1 hj2.2 (by omega) (madeL_ne X (by omega)) hq
      rw [← e1, ← e2] at this
      rw [hb0, cond_false]
      exact this
theorem made10_ok (n : Nat) (X : Nat → Nat → Int) (hx : ∀ j, j < n → xOk X j) : CallGives PP II 10 [xAV n X] (AH.blank 12) (.ret (factsAV (madeL X (min n 40)).length (getL (madeL X (min n 40)))) (AH.blank 12)) := by
  have hloop := made_loop n X hx
  by_cases h0 : min n 40 = 0
  · have h1 : CallGives PP II 10 [xAV n X] (AH.blank 12) (.ret .nilSlice (AH.blank 12)) := by
      refine of_kb (ks := []) (T := [(3008, 12, s10 n X ⟨0, true, 0, getL []⟩, e10 n X true 0 0 (getL []))]) (fun _ => trivial) ?_
      rw [made10_vc]
      rw [h0] at hloop
      exact ⟨hloop, EqN.mk rfl ⟨xRows _ _, rfl⟩⟩
    rw [h0]
    exact h1.le (ResLe.of [] (HeapLe.of rfl rfl rfl rfl rfl (allN_iff.2 fun _ _ => trivial)) rfl)
  · have e : madeAt X (min n 40) = ⟨((min n 40 : Nat) : Int), false, (madeL X (min n 40)).length, getL (madeL X (min n 40))⟩ := by
      unfold madeAt
      have : Nat.beq (min n 40) 0 = false := by
        cases hb : Nat.beq (min n 40) 0 with
        | false => rfl
        | true => exact absurd (Nat.eq_of_beq_eq_true hb) h0
      rw [this]
    rw [e] at hloop
    generalize ((min n 40 : Nat) : Int) = iN at hloop
    generalize madeL X (min n 40) = L at *
    refine of_kb (ks := []) (T := [(3008, 12, s10 n X ⟨0, true, 0, getL L⟩, e10 n X false iN L.length (getL L))]) (fun σ => ⟨rfl, rfl, fun i hi => factAV_le σ _⟩) ?_
    rw [made10_vc]
    exact ⟨hloop, EqN.mk rfl ⟨xRows _ _, Asks.mk' _ _ (by simp) rfl⟩⟩
end Go.Sx
end
section
set_option maxRecDepth 1000000
namespace Go.Sx
open Go
theorem sRow_le (σ : Nat → Nat) (S : Nat → List UInt8) (i : Nat) : AVs.le σ (sRow S i) (sRow S i) := ⟨rfl, trivial⟩
theorem sRows (n : Nat) (S : Nat → List UInt8) : RowsLe n (sRow S) (sRow S) := RowsLe.same fun _ _ => sRow_le _ _ _
def anyTo (p : Nat → Bool) (n : Nat) : Bool := (List.range n).any p
theorem anyTo_true {p : Nat → Bool} {n j : Nat} (h : j < n) (k : p j = true) : anyTo p n = true := List.any_eq_true.2 ⟨j, List.mem_range.2 h, k⟩
theorem anyTo_false {p : Nat → Bool} {n : Nat} (h : ∀ j, j < n → p j = false) : anyTo p n = false := by
  cases e : anyTo p n with
  | false => rfl
  | true =>
    obtain ⟨j, h1, h2⟩ := List.any_eq_true.1 e
    rw [h j (List.mem_range.1 h1)] at h2; cases h2
def hitC (w : SL) (i k : Nat) : Bool := !List.beq (w.S i) (w.T k) && List.beq (sumF (w.S i)) (sumF (w.T k))
def colF (w : SL) : Bool := anyTo (fun i => anyTo (hitC w i) w.m) w.n
def sumsOf (w : SL) (k : Nat) : List UInt8 := sumF (w.T k)
theorem push_s {m : Nat} {W : Nat → List UInt8} {x : List UInt8} (h : x = W m) : RowsLe (m + 1) (fun i => bif Nat.blt i m then sRow W i else List.take 1 (List.drop (0 + (i - m) * 1) [AV.str x])) (sRow W) := by
  intro j hj σ
  show AVs.le σ (bif Nat.blt j m then sRow W j else List.take 1 (List.drop (0 + (j - m) * 1) [AV.str x])) (sRow W j)
  by_cases hl : j < m
  · rw [(Nat.blt_eq ..).mpr hl, cond_true]; exact sRow_le σ W j
  · have : j = m := by omega
    subst this
    rw [bltF (by omega), cond_false, Nat.sub_self, h]
    exact ⟨rfl, trivial⟩
def SLok (w : SL) : Prop := w.n ≤ 1000000 ∧ w.m ≤ 1000000 ∧ (∀ i, i < w.n → (w.S i).length ≤ 900000) ∧ ∀ k, k < w.m → (w.T k).length ≤ 900000
theorem colA_loop {w : SL} (hw : SLok w) : LoopAt PP II false (loopOf II 17 3004) 12 (s17a w (sumsOf w) (0, 0)) (e17a w (sumsOf w)) :=
  LoopAt.of (ι := Int × Nat) hII [kRSum] (lamT_ok PP II []) 1000 12 (fun x => x.2 ≤ w.m ∧ x.1 = (x.2 : Int)) (s17a w (sumsOf w)) (fun _ => e17a w (sumsOf w)) (fun x => w.m - x.2) (fun x => (x.1 + 1, x.2 + 1)) (0, 0) rfl
    ⟨by omega, rfl⟩ fun x hx => by
    obtain ⟨i, k⟩ := x
    obtain ⟨hk, h1⟩ := hx
    change k ≤ w.m at hk
    change i = (k : Int) at h1
    have eM : Int.ofNat w.m = (w.m : Int) := rfl
    obtain ⟨w1, w2, w3, w4⟩ := hw
    refine (colA_step w (sumsOf w) i k _).mpr (Cond.mk (fun c => ?_) fun c => ?_)
    · simp only [decide_eq_true_eq, eM] at c
      have ni : Int.toNat i = k := by omega
      have hk' : k < w.m := by omega
      rw [ni]
      refine Asks.mk (by rw [decide_eq_true (show (0 : Int) ≤ i by omega), decide_eq_true (show i < Int.ofNat w.m by omega)]; rfl) (Asks.mk (decide_eq_true (w4 k hk')) (Asks.mk ?_ (Asks.mk (inR_small (by omega) (by omega)) (EqN.mk rfl ⟨push_s rfl, EqN.mk rfl ⟨sRows _ _, EqN.mk rfl (EqN.mk rfl ⟨sRows _ _, rfl, EqI.mk rfl ⟨⟨hk', by show i + 1 = ((k + 1 : Nat) : Int); omega⟩, by show w.m - (k + 1) < w.m - k; omega, rfl⟩⟩)⟩⟩))))
      rw [decide_eq_true (Nat.le_refl k), decide_eq_true (show (k + 1) * 16 ≤ 140737488355328 by omega)]; rfl
    · simp only [decide_eq_false_iff_not, eM] at c
      have : k = w.m := by omega
      subst this
      exact EqN.mk rfl ⟨sRows _ _, EqN.mk rfl ⟨sRows _ _, EqN.mk rfl (EqN.mk rfl ⟨sRows _ _, rfl, trivial⟩)⟩⟩
theorem colC_loop {w : SL} (hw : SLok w) {i : Int} {r : Nat} (hi : i = (r : Int)) (hr : r < w.n) : LoopAt PP II false (loopOf II 17 11004) 13 (s17c w (sumsOf w) i (sumF (w.S r)) 0) (e17c w (sumsOf w) i (anyTo (hitC w r) w.m)) :=
  LoopAt.of (ι := Int) hII [] (lamT_ok PP II []) 1000 13 (fun k => ∃ j : Nat, j ≤ w.m ∧ k = (j : Int) ∧ ∀ a, a < j → hitC w r a = false) (s17c w (sumsOf w) i (sumF (w.S r))) (fun _ => e17c w (sumsOf w) i (anyTo (hitC w r) w.m)) (fun k => (w.m - k).toNat) (fun k => k + 1) 0 rfl
    ⟨0, Nat.zero_le _, rfl, fun a h => absurd h (Nat.not_lt_zero a)⟩ fun k hk => by
    obtain ⟨j, hj, h1, h2⟩ := hk
    have eM : Int.ofNat w.m = (w.m : Int) := rfl
    have eN : Int.ofNat w.n = (w.n : Int) := rfl
    obtain ⟨w1, w2, w3, w4⟩ := hw
    refine (colC_step w (sumsOf w) i (sumF (w.S r)) (anyTo (hitC w r) w.m) k _).mpr (Cond.mk (fun c => ?_) fun c => ?_)
    · simp only [decide_eq_true_eq, eM] at c
      have ni : Int.toNat i = r := by omega
      have nk : Int.toNat k = j := by omega
      have hj' : j < w.m := by omega
      rw [ni, nk]
      have ask1 : (decide ((0 : Int) ≤ i) && decide (i < Int.ofNat w.n)) = true := by rw [decide_eq_true (show (0 : Int) ≤ i by omega), decide_eq_true (show i < Int.ofNat w.n by omega)]; rfl
      have ask2 : (decide ((0 : Int) ≤ k) && decide (k < Int.ofNat w.m)) = true := by rw [decide_eq_true (show (0 : Int) ≤ k by omega), decide_eq_true (show k < Int.ofNat w.m by omega)]; rfl
      have fin : hitC w r j = false → (∃ j' : Nat, j' ≤ w.m ∧ k + 1 = (j' : Int) ∧ ∀ a, a < j' → hitC w r a = false) ∧ ((w.m : Int) - (k + 1)).toNat < ((w.m : Int) - k).toNat ∧ (e17c w (sumsOf w) i (anyTo (hitC w r) w.m)).pick = (e17c w (sumsOf w) i (anyTo (hitC w r) w.m)).pick := fun h =>
        ⟨⟨j + 1, hj', by omega, fun a ha => by
          by_cases e : a = j
          · rw [e]; exact h
          · exact h2 a (by omega)⟩, by omega, rfl⟩
      have go : hitC w r j = false → Asks (inR IntKind.i64 (k + 1)) (EqN (SL.m w) (SL.m w) (RowsLe (SL.m w) (sRow (sumsOf w)) (sRow (sumsOf w)) ∧ EqI i i (EqN (SL.m w) (SL.m w) (RowsLe (SL.m w) (sRow (SL.T w)) (sRow (SL.T w)) ∧ EqI (k + (1 : Int)) (k + (1 : Int)) (EqN (SL.m w) (SL.m w) (EqN (SL.n w) (SL.n w) (RowsLe (SL.n w) (sRow (SL.S w)) (sRow (SL.S w)) ∧ EqB (sumF (w.S r)) (sumF (w.S r)) (false = false ∧ ((∃ j' : Nat, j' ≤ w.m ∧ k + 1 = (j' : Int) ∧ ∀ a, a < j' → hitC w r a = false) ∧ ((w.m : Int) - (k + 1)).toNat < ((w.m : Int) - k).toNat ∧ (e17c w (sumsOf w) i (anyTo (hitC w r) w.m)).pick = (e17c w (sumsOf w) i (anyTo (hitC w r) w.m)).pick))))))))) := fun h =>
        Asks.mk (inR_small (by omega) (by omega)) (EqN.mk rfl ⟨sRows _ _, EqI.mk rfl (EqN.mk rfl ⟨sRows _ _, EqI.mk rfl (EqN.mk rfl (EqN.mk rfl ⟨sRows _ _, EqB.mk rfl ⟨rfl, fin h⟩⟩))⟩)⟩)
      refine Asks.mk ask1 (Asks.mk ask2 (Cond.mk (fun c1 => Asks.mk ask2 (Asks.mk (decide_eq_true hj') (Cond.mk (fun c2 => ?_) fun c2 => ?_))) fun c1 => ?_))
      · have : hitC w r j = true := by
          unfold hitC
          rw [c1]; exact c2
        rw [anyTo_true hj' this]
        exact ⟨rfl, trivial⟩
      · refine go ?_
        unfold hitC
        rw [c1]; exact c2
      · refine go ?_
        unfold hitC
        rw [c1, Bool.false_and]
    · simp only [decide_eq_false_iff_not, eM] at c
      have : j = w.m := by omega
      subst this
      rw [anyTo_false h2]
      exact EqN.mk rfl ⟨sRows _ _, EqI.mk rfl (EqN.mk rfl ⟨sRows _ _, EqN.mk rfl (EqN.mk rfl ⟨sRows _ _, rfl, trivial⟩)⟩)⟩
noncomputable def colT (w : SL) (i : Int) : LTab := [(11004, 13, s17c w (sumsOf w) i (sumF (w.S (Int.toNat i))) 0, e17c w (sumsOf w) i (anyTo (hitC w (Int.toNat i)) w.m))]
theorem colB_loop {w : SL} (hw : SLok w) : LoopAt PP II false (loopOf II 17 7004) 13 (s17b w (sumsOf w) 0) (e17b (colF w)) :=
  LoopAt.ofT (ι := Int) hII [kRSum] 1000 (colT w) 13 (fun i => ∃ r : Nat, r ≤ w.n ∧ i = (r : Int) ∧ ∀ a, a < r → anyTo (hitC w a) w.m = false) (s17b w (sumsOf w)) (fun _ => e17b (colF w)) (fun i => (w.n - i).toNat) (fun i => i + 1) 0 rfl
    ⟨0, Nat.zero_le _, rfl, fun a h => absurd h (Nat.not_lt_zero a)⟩ fun i hi => by
    obtain ⟨r, hr, h1, h2⟩ := hi
    have eN : Int.ofNat w.n = (w.n : Int) := rfl
    have hw' := hw
    obtain ⟨w1, w2, w3, w4⟩ := hw'
    refine (colB_step w (sumsOf w) i (colF w) (anyTo (hitC w (Int.toNat i)) w.m) _).mpr (Cond.mk (fun c => ?_) fun c => ?_)
    · simp only [decide_eq_true_eq, eN] at c
      have ni : Int.toNat i = r := by omega
      have hr' : r < w.n := by omega
      rw [ni]
      have lp := colC_loop hw h1 hr'
      refine Asks.mk (by rw [decide_eq_true (show (0 : Int) ≤ i by omega), decide_eq_true (show i < Int.ofNat w.n by omega)]; rfl) (Asks.mk (decide_eq_true (w3 r hr')) ⟨lp, EqN.mk rfl ⟨sRows _ _, EqI.mk rfl (EqN.mk rfl ⟨sRows _ _, EqN.mk rfl (EqN.mk rfl ⟨sRows _ _, EqB.mk rfl ⟨rfl, Cond.mk (fun c1 => ?_) fun c1 => ?_⟩⟩)⟩)⟩⟩)
      · have : colF w = true := anyTo_true hr' c1
        rw [this]
        exact ⟨rfl, trivial⟩
      · refine Asks.mk (inR_small (by omega) (by omega)) (EqN.mk rfl ⟨sRows _ _, EqI.mk rfl (EqN.mk rfl ⟨sRows _ _, EqN.mk rfl (EqN.mk rfl ⟨sRows _ _, rfl, ⟨r + 1, hr', by omega, fun a ha => ?_⟩, by omega, rfl⟩)⟩)⟩)
        by_cases e : a = r
        · rw [e]; exact c1
        · exact h2 a (by omega)
    · simp only [decide_eq_false_iff_not, eN] at c
      have : r = w.n := by omega
      subst this
      have : colF w = false := anyTo_false h2
      rw [this]
      exact trivial
theorem col_ok {w : SL} (hw : SLok w) : CallGives PP II 17 [.fslice w.n 1 (sRow w.S), .fslice w.m 1 (sRow w.T)] (AH.blank 12) (.ret (.bool (colF w)) (AH.blank 12)) := by
  refine of_kb (ks := []) (T := [(3004, 12, s17a w (sumsOf w) (0, 0), e17a w (sumsOf w)), (7004, 13, s17b w (sumsOf w) 0, e17b (colF w))]) (fun _ => rfl) ?_
  rw [col_vc]
  refine ⟨colA_loop hw, EqN.mk rfl ⟨sRows _ _, EqN.mk rfl ⟨sRows _ _, rfl, colB_loop hw, EqN.mk rfl ⟨sRows _ _, EqN.mk rfl ⟨sRows _ _, EqN.mk rfl (EqN.mk rfl ⟨sRows _ _, rfl, Cond.mk (fun c => ?_) fun c => ?_⟩)⟩⟩⟩⟩⟩
  · rw [c]
  · rw [c]
def strsOk (n : Nat) (f : Nat → List AV) : Bool := Nat.ble n 1000000 && (List.range n).all fun i => match f i with | [.str s] => Nat.ble s.length 900000 | _ => false
def strOf (f : Nat → List AV) (i : Nat) : List UInt8 := match f i with | [.str s] => s | _ => []
theorem strsOk_at {n : Nat} {f : Nat → List AV} (h : strsOk n f = true) : n ≤ 1000000 ∧ ∀ i, i < n → f i = [.str (strOf f i)] ∧ (strOf f i).length ≤ 900000 := by
  simp only [strsOk, Bool.and_eq_true] at h
  refine ⟨Nat.le_of_ble_eq_true h.1, fun i hi => ?_⟩
  have := List.all_eq_true.1 h.2 i (List.mem_range.2 hi)
  unfold strOf
  split at this
  · rename_i s hs; rw [hs]; exact ⟨rfl, Nat.le_of_ble_eq_true this⟩
  · cases this
noncomputable def kRCol : Known PP II := Known.pure 17
  (fun X args kn => match args with
    | [.fslice n 1 f, .fslice m 1 g] => X.assert (strsOk n f) (X.assert (strsOk m g) (kn (.bool (colF ⟨n, strOf f, m, strOf g⟩))))
    | _ => X.fail)
  fun X sem hX args kn h => by
    split at h
    · rename_i n f m g
      obtain ⟨e1, k1⟩ := hX.assert _ _ h
      obtain ⟨e2, k2⟩ := hX.assert _ _ k1
      obtain ⟨a1, a2⟩ := strsOk_at e1
      obtain ⟨b1, b2⟩ := strsOk_at e2
      refine ⟨_, k2, fun _ => rfl, fun _ => rfl, ?_⟩
      have := col_ok (w := ⟨n, strOf f, m, strOf g⟩) ⟨a1, b1, fun i hi => (a2 i hi).2, fun i hi => (b2 i hi).2⟩
      exact this.argsLe ⟨⟨rfl, rfl, fun i hi => by rw [(a2 i hi).1]; exact sRow_le _ _ _⟩, ⟨rfl, rfl, fun i hi => by rw [(b2 i hi).1]; exact sRow_le _ _ _⟩, trivial⟩
    · exact absurd h hX.fail
end Go.Sx
end
