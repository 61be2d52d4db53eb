/- CertifyRoot is proved, part 21. -/
import Derived.Test.YtleifmkjbmhlpaaGreatDoorX20
set_option linter.unusedVariables false
set_option linter.unusedSimpArgs false
set_option linter.unusedSectionVars false
section
set_option maxRecDepth 1000000
namespace Go.Sx
open Go
def nodesL : Tree → List (List UInt8)
  | .leaf x => [intsF (factInts x), hashS (leafF x)]
  | .node l r => nodesL l ++ nodesL r ++ [hashS (joinF (topF l) (topF r))]
def nodesN (t : Tree) : Nat := (nodesL t).length
def strRow (L : List (List UInt8)) (i : Nat) : List AV := [.str (L.getD i [])]
def leafB (x : Fact) : ABlk := .cells [.str (intsF (factInts x)), .str (hashS (leafF x))] (.ty 9)
def nodeB (t : Tree) : ABlk := .rows (nodesN t) 1 (strRow (nodesL t)) (.ty 9)
def RNodes (d : Nat) : Prop := ∀ n F, growOk d n = true → factsOk n F = true →
  (n = 1 → CallGives PP II 45 [factsAV n F] (AH.blank 12) (.ret (.slice 12 0 0 2 (some 2) 1) ((AH.blank 12).new (leafB (F 0))))) ∧
  (n ≠ 1 → CallGives PP II 45 [factsAV n F] (AH.blank 12) (.ret (.own 12 (nodesN (growT d n F)) 1) ((AH.blank 12).new (nodeB (growT d n F)))))
noncomputable def kRNodesB (d : Nat) (ih : RNodes d) : Known PP II := Known.fresh 45
  (fun X args kn => match args with
    | [.fslice n 10 f] => X.assert (isFacts n f) (X.assert (growOk d n) (X.assert (factsOk n (factAt f))
      (X.cond (decide (n = 1)) (fun _ => kn (fun L => .slice L 0 0 2 (some 2) 1) (.cells [.str (intsF (factInts (factAt f 0))), .str (hashS (leafF (factAt f 0)))] (.ty 9)))
        (fun _ => kn (fun L => .own L (nodesN (growT d n (factAt f))) 1) (.rows (nodesN (growT d n (factAt f))) 1 (strRow (nodesL (growT d n (factAt f)))) (.ty 9))))))
    | _ => X.fail)
  fun X sem hX args kn h => by
    split at h
    · rename_i n f
      obtain ⟨e1, k1⟩ := hX.assert _ _ h
      obtain ⟨e2, k2⟩ := hX.assert _ _ k1
      obtain ⟨e3, k3⟩ := hX.assert _ _ k2
      have k4 := hX.cond _ _ _ k3
      have hh := ih n (factAt f) e2 e3
      by_cases hn : n = 1
      · rw [if_pos (decide_eq_true hn)] at k4
        exact ⟨_, _, k4, fun _ _ => rfl, fun _ => rfl, fun _ => rfl, (hh.1 hn).argsLe ⟨isFacts_ok e1, trivial⟩⟩
      · rw [if_neg (by simpa using hn)] at k4
        exact ⟨_, _, k4, fun _ _ => rfl, fun _ => rfl, fun _ => rfl, (hh.2 hn).argsLe ⟨isFacts_ok e1, trivial⟩⟩
    · exact absurd h hX.fail
theorem nodes1_vc (d : Nat) (F : Nat → Fact) (ihT : RTrees (d + 1)) : (kbody [kRTreeB (d + 1) ihT, kRHash, kREnc] (lamT PP II []) 1000 45 [factsAV 1 F] (AH.blank 12) (fun a H => ResLq 12 a H (.slice 12 0 0 2 (some 2) 1) ((AH.blank 12).new (leafB (F 0))) True) (fun _ _ => False)) = (Asks (isFacts 1 fun i => factAV (F i)) (Asks (growOk (d + 1) 1) (Asks (factsOk 1 (factAt fun i => factAV (F i))) (Asks (nodeOk { lo := fun j => if h : j = 0 then Node.lo (topF (growT (d + 1) 1 (factAt fun i => factAV (F i)))) 0 else if h : j = 1 then Node.lo (topF (growT (d + 1) 1 (factAt fun i => factAV (F i)))) 1 else if h : j = 2 then Node.lo (topF (growT (d + 1) 1 (factAt fun i => factAV (F i)))) 2 else if h : j = 3 then Node.lo (topF (growT (d + 1) 1 (factAt fun i => factAV (F i)))) 3 else if h : j = 4 then Node.lo (topF (growT (d + 1) 1 (factAt fun i => factAV (F i)))) 4 else if h : j = 5 then Node.lo (topF (growT (d + 1) 1 (factAt fun i => factAV (F i)))) 5 else if h : j = 6 then Node.lo (topF (growT (d + 1) 1 (factAt fun i => factAV (F i)))) 6 else if h : j = 7 then Node.lo (topF (growT (d + 1) 1 (factAt fun i => factAV (F i)))) 7 else 0, hi := fun j => if h : j = 0 then Node.hi (topF (growT (d + 1) 1 (factAt fun i => factAV (F i)))) 0 else if h : j = 1 then Node.hi (topF (growT (d + 1) 1 (factAt fun i => factAV (F i)))) 1 else if h : j = 2 then Node.hi (topF (growT (d + 1) 1 (factAt fun i => factAV (F i)))) 2 else if h : j = 3 then Node.hi (topF (growT (d + 1) 1 (factAt fun i => factAV (F i)))) 3 else if h : j = 4 then Node.hi (topF (growT (d + 1) 1 (factAt fun i => factAV (F i)))) 4 else if h : j = 5 then Node.hi (topF (growT (d + 1) 1 (factAt fun i => factAV (F i)))) 5 else if h : j = 6 then Node.hi (topF (growT (d + 1) 1 (factAt fun i => factAV (F i)))) 6 else if h : j = 7 then Node.hi (topF (growT (d + 1) 1 (factAt fun i => factAV (F i)))) 7 else 0, l := Node.l (topF (growT (d + 1) 1 (factAt fun i => factAV (F i)))), r := Node.r (topF (growT (d + 1) 1 (factAt fun i => factAV (F i)))) })
 (Asks (factOk (F 0)) (EqB (intsF (factInts (F 0))) (intsF (factInts (F 0))) (EqB (hashS { lo := fun j => if h : j = 0 then Node.lo (topF (growT (d + 1) 1 (factAt fun i => factAV (F i)))) 0 else if h : j = 1 then Node.lo (topF (growT (d + 1) 1 (factAt fun i => factAV (F i)))) 1 else if h : j = 2 then Node.lo (topF (growT (d + 1) 1 (factAt fun i => factAV (F i)))) 2 else if h : j = 3 then Node.lo (topF (growT (d + 1) 1 (factAt fun i => factAV (F i)))) 3 else if h : j = 4 then Node.lo (topF (growT (d + 1) 1 (factAt fun i => factAV (F i)))) 4 else if h : j = 5 then Node.lo (topF (growT (d + 1) 1 (factAt fun i => factAV (F i)))) 5 else if h : j = 6 then Node.lo (topF (growT (d + 1) 1 (factAt fun i => factAV (F i)))) 6 else if h : j = 7 then Node.lo (topF (growT (d + 1) 1 (factAt fun i => factAV (F i)))) 7 else 0, hi := fun j => if h : j = 0 then Node.hi (topF (growT (d + 1) 1 (factAt fun i => factAV (F i)))) 0 else if h : j = 1 then Node.hi (topF (growT (d + 1) 1 (factAt fun i => factAV (F i)))) 1 else if h : j = 2 then Node.hi (topF (growT (d + 1) 1 (factAt fun i => factAV (F i)))) 2 else if h : j = 3 then Node.hi (topF (growT (d + 1) 1 (factAt fun i => factAV (F i)))) 3 else if h : j = 4 then Node.hi (topF (growT (d + 1) 1 (factAt fun i => factAV (F i)))) 4 else if h : j = 5 then Node.hi (topF (growT (d + 1) 1 (factAt fun i => factAV (F i)))) 5 else if h : j = 6 then Node.hi (topF (growT (d + 1) 1 (factAt fun i => factAV (F i)))) 6 else if h : j = 7 then Node.hi (topF (growT (d + 1) 1 (factAt fun i => factAV (F i)))) 7 else 0, l := Node.l (topF (growT (d + 1) 1 (factAt fun i => factAV (F i)))), r := Node.r (topF (growT (d + 1) 1 (factAt fun i => factAV (F i)))) })
 (hashS (leafF (F 0))) True))))))) := by kernel_rfl
theorem nodesN_vc (d n m : Nat) (F : Nat → Fact) (L : List (List UInt8)) (ihT : RTrees (d + 1)) (ih : RNodes d) : (kbody [kRTreeB (d + 1) ihT, kRHash, kREnc, kRHalf, kRNodesB d ih] (lamT PP II []) 1000 45 [factsAV n F] (AH.blank 12) (fun a H => ResLq 12 a H (.own 12 m 1) ((AH.blank 12).new (.rows m 1 (strRow L) (.ty 9))) True) (fun _ _ => False)) = (let zz1 := (hashS { lo := fun j => if h : j = 0 then Node.lo (topF (growT (d + 1) n (factAt fun i => factAV (F i)))) 0 else if h : j = 1 then Node.lo (topF (growT (d + 1) n (factAt fun i => factAV (F i)))) 1 else if h : j = 2 then Node.lo (topF (growT (d + 1) n (factAt fun i => factAV (F i)))) 2 else if h : j = 3 then Node.lo (topF (growT (d + 1) n (factAt fun i => factAV (F i)))) 3 else if h : j = 4 then Node.lo (topF (growT (d + 1) n (factAt fun i => factAV (F i)))) 4 else if h : j = 5 then Node.lo (topF (growT (d + 1) n (factAt fun i => factAV (F i)))) 5 else if h : j = 6 then Node.lo (topF (growT (d + 1) n (factAt fun i => factAV (F i)))) 6 else if h : j = 7 then Node.lo (topF (growT (d + 1) n (factAt fun i => factAV (F i)))) 7 else 0, hi := fun j => if h : j = 0 then Node.hi (topF (growT (d + 1) n (factAt fun i => factAV (F i)))) 0 else if h : j = 1 then Node.hi (topF (growT (d + 1) n (factAt fun i => factAV (F i)))) 1 else if h : j = 2 then Node.hi (topF (growT (d + 1) n (factAt fun i => factAV (F i)))) 2 else if h : j = 3 then Node.hi (topF (growT (d + 1) n (factAt fun i => factAV (F i)))) 3 else if h : j = 4 then Node.hi (topF (growT (d + 1) n (factAt fun i => factAV (F i)))) 4 else if h : j = 5 then Node.hi (topF (growT (d + 1) n (factAt fun i => factAV (F i)))) 5 else if h : j = 6 then Node.hi (topF (growT (d + 1) n (factAt fun i => factAV (F i)))) 6 else if h : j = 7 then Node.hi (topF (growT (d + 1) n (factAt fun i => factAV (F i)))) 7 else 0, l := Node.l (topF (growT (d + 1) n (factAt fun i => factAV (F i)))), r := Node.r (topF (growT (d + 1) n (factAt fun i => factAV (F i)))) });
 let zz2 := (growT d (Int.toNat (Int.ofNat n - Int.ofNat (halfN (Int.toNat (Int.ofNat n))))) (factAt fun i => factAV (F (Int.toNat (Int.ofNat (halfN (Int.toNat (Int.ofNat n)))) + i)))); let zz3 := (growT d (Int.toNat (Int.ofNat (halfN (Int.toNat (Int.ofNat n))) - 0)) (factAt fun i => factAV (F (0 + i)))); let zz4 := (decide (Int.toNat (Int.ofNat n - Int.ofNat (halfN (Int.toNat (Int.ofNat n)))) = Int.toNat (Int.ofNat n - Int.ofNat (halfN (Int.toNat (Int.ofNat n))))) && true && List.all (List.range.loop (Int.toNat (Int.ofNat n - Int.ofNat (halfN (Int.toNat (Int.ofNat n))))) []) fun i => decide (Fact.t (F (Int.toNat (Int.ofNat (halfN (Int.toNat (Int.ofNat n)))) + i)) = Fact.t (F (Int.toNat (Int.ofNat (halfN (Int.toNat (Int.ofNat n)))) + i))) && (decide (Fact.s (F (Int.toNat (Int.ofNat (halfN (Int.toNat (Int.ofNat n)))) + i)) = Fact.s (F (Int.toNat (Int.ofNat (halfN (Int.toNat (Int.ofNat
 n)))) + i))) && (decide (Fact.v (F (Int.toNat (Int.ofNat (halfN (Int.toNat (Int.ofNat n)))) + i)) = Fact.v (F (Int.toNat (Int.ofNat (halfN (Int.toNat (Int.ofNat n)))) + i))) && (decide (Fact.w (F (Int.toNat (Int.ofNat (halfN (Int.toNat (Int.ofNat n)))) + i)) = Fact.w (F (Int.toNat (Int.ofNat (halfN (Int.toNat (Int.ofNat n)))) + i))) && (decide (Fact.o (F (Int.toNat (Int.ofNat (halfN (Int.toNat (Int.ofNat n)))) + i)) = Fact.o (F (Int.toNat (Int.ofNat (halfN (Int.toNat (Int.ofNat n)))) + i))) && (decide (Fact.p (F (Int.toNat (Int.ofNat (halfN (Int.toNat (Int.ofNat n)))) + i)) = Fact.p (F (Int.toNat (Int.ofNat (halfN (Int.toNat (Int.ofNat n)))) + i))) && (decide (Fact.d (F (Int.toNat (Int.ofNat (halfN (Int.toNat (Int.ofNat n)))) + i)) = Fact.d (F (Int.toNat (Int.ofNat (halfN (Int.toNat (Int.ofNat n)))) + i))) && (decide (Fact.l (F (Int.toNat (Int.ofNat (halfN (Int.toNat (Int.ofNat n)))) +
 i)) = Fact.l (F (Int.toNat (Int.ofNat (halfN (Int.toNat (Int.ofNat n)))) + i))) && (decide (Fact.h (F (Int.toNat (Int.ofNat (halfN (Int.toNat (Int.ofNat n)))) + i)) = Fact.h (F (Int.toNat (Int.ofNat (halfN (Int.toNat (Int.ofNat n)))) + i))) && (decide (Fact.b (F (Int.toNat (Int.ofNat (halfN (Int.toNat (Int.ofNat n)))) + i)) = Fact.b (F (Int.toNat (Int.ofNat (halfN (Int.toNat (Int.ofNat n)))) + i))) && true)))))))))); let zz5 := (decide (0 ≤ Int.ofNat (halfN (Int.toNat (Int.ofNat n)))) && decide (Int.ofNat (halfN (Int.toNat (Int.ofNat n))) ≤ Int.ofNat n) && decide (Int.ofNat n ≤ Int.ofNat n)); let zz6 := (factAt (fun i => factAV (F (Int.toNat (Int.ofNat (halfN (Int.toNat (Int.ofNat n)))) + i))) 0); let zz7 := (factsOk (Int.toNat (Int.ofNat n - Int.ofNat (halfN (Int.toNat (Int.ofNat n))))) (factAt fun i => factAV (F (Int.toNat (Int.ofNat (halfN (Int.toNat (Int.ofNat n)))) + i)))); (Asks
 (isFacts n fun i => factAV (F i)) (Asks (growOk (d + 1) n) (Asks (factsOk n (factAt fun i => factAV (F i))) (Asks (nodeOk { lo := fun j => if h : j = 0 then Node.lo (topF (growT (d + 1) n (factAt fun i => factAV (F i)))) 0 else if h : j = 1 then Node.lo (topF (growT (d + 1) n (factAt fun i => factAV (F i)))) 1 else if h : j = 2 then Node.lo (topF (growT (d + 1) n (factAt fun i => factAV (F i)))) 2 else if h : j = 3 then Node.lo (topF (growT (d + 1) n (factAt fun i => factAV (F i)))) 3 else if h : j = 4 then Node.lo (topF (growT (d + 1) n (factAt fun i => factAV (F i)))) 4 else if h : j = 5 then Node.lo (topF (growT (d + 1) n (factAt fun i => factAV (F i)))) 5 else if h : j = 6 then Node.lo (topF (growT (d + 1) n (factAt fun i => factAV (F i)))) 6 else if h : j = 7 then Node.lo (topF (growT (d + 1) n (factAt fun i => factAV (F i)))) 7 else 0, hi := fun j => if h : j = 0 then Node.hi (topF (growT (d + 1) n (factAt fun i => factAV (F i)))) 0 else if h : j = 1 then Node.hi (topF (growT (d + 1) n (factAt fun i => factAV (F i)))) 1 else if h : j = 2 then Node.hi (topF (growT (d + 1) n (factAt fun i => factAV (F i)))) 2 else if h : j = 3 then Node.hi (topF (growT (d + 1) n (factAt fun i => factAV (F i)))) 3 else if h : j = 4 then Node.hi (topF (growT (d + 1) n (factAt fun i => factAV (F i)))) 4 else if h : j = 5 then Node.hi (topF (growT (d + 1) n (factAt fun i => factAV (F i)))) 5 else if h : j = 6 then Node.hi (topF (growT (d + 1) n (factAt fun i => factAV (F i)))) 6 else if h : j = 7 then Node.hi (topF (growT (d + 1) n (factAt fun i => factAV (F i)))) 7 else 0, l := Node.l (topF (growT (d + 1) n (factAt fun i => factAV (F i)))), r := Node.r (topF (growT (d + 1) n (factAt fun i => factAV (F i)))) })
 (Cond (decide (Int.ofNat n = 1)) (Asks (decide (0 < Int.ofNat n)) (Asks (factOk (F 0)) (EqN m 0 False))) (Asks (decide (0 ≤ Int.ofNat n) && decide (Int.ofNat n ≤ 1000000)) (Asks (decide (0 ≤ Int.ofNat (halfN (Int.toNat (Int.ofNat n)))) && decide (Int.ofNat (halfN (Int.toNat (Int.ofNat n))) ≤ Int.ofNat n)) (Asks (isFacts (Int.toNat (Int.ofNat (halfN (Int.toNat (Int.ofNat n))) - 0)) fun i => factAV (F (0 + i))) (Asks (growOk d (Int.toNat (Int.ofNat (halfN (Int.toNat (Int.ofNat n))) - 0))) (Asks (factsOk (Int.toNat (Int.ofNat (halfN (Int.toNat (Int.ofNat n))) - 0)) (factAt fun i => factAV (F (0 + i)))) (Cond (decide (Int.toNat (Int.ofNat (halfN (Int.toNat (Int.ofNat n))) - 0) = 1)) (Asks zz5 (Asks zz5 (Asks zz4 (Asks (isFacts (Int.toNat (Int.ofNat n - Int.ofNat (halfN (Int.toNat (Int.ofNat n))))) fun i => factAV (F (Int.toNat (Int.ofNat (halfN (Int.toNat (Int.ofNat n)))) + i))) (Asks
 (growOk d (Int.toNat (Int.ofNat n - Int.ofNat (halfN (Int.toNat (Int.ofNat n)))))) (Asks zz7 (Cond (decide (Int.toNat (Int.ofNat n - Int.ofNat (halfN (Int.toNat (Int.ofNat n)))) = 1)) (EqN 5 (m * 1) (RowsLe m (cutRow [AV.str (intsF (factInts (factAt (fun i => factAV (F (0 + i))) 0))), AV.str (hashS (leafF (factAt (fun i => factAV (F (0 + i))) 0))), AV.str (intsF (factInts zz6)), AV.str (hashS (leafF zz6)), AV.str zz1] 1) (strRow L) ∧ EqN 5 m True)) (Asks (decide (nodesN zz2 ≤ nodesN zz2) && true && decide ((2 + nodesN zz2) * 16 ≤ 140737488355328) && true) (Cond (decide (nodesN zz2 = 0)) (EqN 3 (m * 1) (RowsLe m (cutRow [AV.str (intsF (factInts (factAt (fun i => factAV (F (0 + i))) 0))), AV.str (hashS (leafF (factAt (fun i => factAV (F (0 + i))) 0))), AV.str zz1] 1) (strRow L) ∧ EqN 3 m True)) (Asks (decide (2 + nodesN zz2 ≤ 2 + nodesN zz2) && true && true && decide ((2 + nodesN zz2 + 1)
 * 16 ≤ 140737488355328) && true) (EqN (2 + nodesN zz2 + 1) m (RowsLe (2 + nodesN zz2 + 1) (fun i => bif Nat.blt i (2 + nodesN zz2) then bif Nat.blt i 2 then List.take 1 (List.drop (0 + i * 1) [AV.str (intsF (factInts (factAt (fun i => factAV (F (0 + i))) 0))), AV.str (hashS (leafF (factAt (fun i => factAV (F (0 + i))) 0)))]) else strRow (nodesL zz2) (i - 2) else List.take 1 (List.drop (0 + (i - (2 + nodesN zz2)) * 1) [AV.str zz1])) (strRow L) ∧ EqN (2 + nodesN zz2 + 1) m True)))))))))))) (Asks zz5 (Asks zz5 (Asks zz4 (Asks (isFacts (Int.toNat (Int.ofNat n - Int.ofNat (halfN (Int.toNat (Int.ofNat n))))) fun i => factAV (F (Int.toNat (Int.ofNat (halfN (Int.toNat (Int.ofNat n)))) + i))) (Asks (growOk d (Int.toNat (Int.ofNat n - Int.ofNat (halfN (Int.toNat (Int.ofNat n)))))) (Asks zz7 (Cond (decide (Int.toNat (Int.ofNat n - Int.ofNat (halfN (Int.toNat (Int.ofNat n)))) = 1)) (Asks (decide
 (nodesN zz3 ≤ nodesN zz3) && true && true && decide ((nodesN zz3 + 2) * 16 ≤ 140737488355328) && true) (Asks (decide (nodesN zz3 + 2 ≤ nodesN zz3 + 2) && true && true && decide ((nodesN zz3 + 2 + 1) * 16 ≤ 140737488355328) && true) (EqN (nodesN zz3 + 2 + 1) m (RowsLe (nodesN zz3 + 2 + 1) (fun i => bif Nat.blt i (nodesN zz3 + 2) then bif Nat.blt i (nodesN zz3) then strRow (nodesL zz3) i else List.take 1 (List.drop (0 + (i - nodesN zz3) * 1) [AV.str (intsF (factInts zz6)), AV.str (hashS (leafF zz6))]) else List.take 1 (List.drop (0 + (i - (nodesN zz3 + 2)) * 1) [AV.str zz1])) (strRow L) ∧ EqN (nodesN zz3 + 2 + 1) m True)))) (Asks (decide (nodesN zz3 ≤ nodesN zz3) && decide (nodesN zz2 ≤ nodesN zz2) && true && decide ((nodesN zz3 + nodesN zz2) * 16 ≤ 140737488355328) && true) (Asks (decide (nodesN zz3 + nodesN zz2 ≤ nodesN zz3 + nodesN zz2) && true && true && decide ((nodesN zz3 + nodesN
 zz2 + 1) * 16 ≤ 140737488355328) && true) (EqN (nodesN zz3 + nodesN zz2 + 1) m (RowsLe (nodesN zz3 + nodesN zz2 + 1) (fun i => bif Nat.blt i (nodesN zz3 + nodesN zz2) then bif Nat.blt i (nodesN zz3) then strRow (nodesL zz3) i else strRow (nodesL zz2) (i - nodesN zz3) else List.take 1 (List.drop (0 + (i - (nodesN zz3 + nodesN zz2)) * 1) [AV.str zz1])) (strRow L) ∧ EqN (nodesN zz3 + nodesN zz2 + 1) m True))))))))))))))))))))))) := by kernel_rfl
end Go.Sx
end
section
set_option maxRecDepth 1000000
namespace Go.Sx
open Go
theorem strRow_le (σ : Nat → Nat) (L : List (List UInt8)) (i : Nat) : AVs.le σ (strRow L i) (strRow L i) := ⟨rfl, trivial⟩
theorem rows_app {n1 n2 : Nat} {f1 f2 f3 : Nat → List AV} {A B : List (List UInt8)} {s : List UInt8} (hA : A.length = n1) (hB : B.length = n2) (h1 : ∀ i, i < n1 → f1 i = strRow A i) (h2 : ∀ i, i < n2 → f2 i = strRow B i) (h3 : f3 0 = [.str s]) :
    RowsLe (n1 + n2 + 1) (fun i => bif Nat.blt i (n1 + n2) then (bif Nat.blt i n1 then f1 i else f2 (i - n1)) else f3 (i - (n1 + n2))) (strRow (A ++ B ++ [s])) := by
  intro i hi σ
  have e : (bif Nat.blt i (n1 + n2) then (bif Nat.blt i n1 then f1 i else f2 (i - n1)) else f3 (i - (n1 + n2))) = strRow (A ++ B ++ [s]) i := by
    unfold strRow
    rw [List.getD_eq_getElem?_getD]
    by_cases c1 : i < n1 + n2
    · rw [(Nat.blt_eq ..).mpr c1, cond_true, List.getElem?_append_left (by simp; omega)]
      by_cases c2 : i < n1
      · rw [(Nat.blt_eq ..).mpr c2, cond_true, List.getElem?_append_left (by omega), h1 i c2]
        unfold strRow
        rw [List.getD_eq_getElem?_getD]
      · rw [bltF c2, cond_false, List.getElem?_append_right (by omega), h2 _ (by omega), hA]
        unfold strRow
        rw [List.getD_eq_getElem?_getD]
    · have : i = n1 + n2 := by omega
      rw [bltF c1, cond_false, this, Nat.sub_self, h3, List.getElem?_append_right (by simp; omega)]
      have : n1 + n2 - (A ++ B).length = 0 := by simp; omega
      rw [this]; rfl
  exact e ▸ strRow_le σ _ i
theorem pair_row (a b : List UInt8) {i : Nat} (h : i < 2) : List.take 1 (List.drop (0 + i * 1) [AV.str a, AV.str b]) = strRow [a, b] i := by
  match i, h with
  | 0, _ | 1, _ => rfl
theorem rows_pn {a b s s' : List UInt8} {B : List (List UInt8)} {N : Nat} (hB : B.length = N) (h : s' = s) :
    RowsLe (2 + N + 1) (fun i => bif Nat.blt i (2 + N) then (bif Nat.blt i 2 then List.take 1 (List.drop (0 + i * 1) [AV.str a, AV.str b]) else strRow B (i - 2)) else List.take 1 (List.drop (0 + (i - (2 + N)) * 1) [AV.str s'])) (strRow ([a, b] ++ B ++ [s])) := by
  subst h
  exact rows_app (n1 := 2) (n2 := N) (f1 := fun i => List.take 1 (List.drop (0 + i * 1) [AV.str a, AV.str b])) (f2 := strRow B) (f3 := fun i => List.take 1 (List.drop (0 + i * 1) [AV.str s'])) (A := [a, b]) (B := B) (s := s') rfl hB (fun i hi => pair_row _ _ hi) (fun i _ => rfl) rfl
theorem rows_np {a b s s' : List UInt8} {A : List (List UInt8)} {N : Nat} (hA : A.length = N) (h : s' = s) :
    RowsLe (N + 2 + 1) (fun i => bif Nat.blt i (N + 2) then (bif Nat.blt i N then strRow A i else List.take 1 (List.drop (0 + (i - N) * 1) [AV.str a, AV.str b])) else List.take 1 (List.drop (0 + (i - (N + 2)) * 1) [AV.str s'])) (strRow (A ++ [a, b] ++ [s])) := by
  subst h
  exact rows_app (n1 := N) (n2 := 2) (f1 := strRow A) (f2 := fun i => List.take 1 (List.drop (0 + i * 1) [AV.str a, AV.str b])) (f3 := fun i => List.take 1 (List.drop (0 + i * 1) [AV.str s'])) (A := A) (B := [a, b]) (s := s') hA rfl (fun i _ => rfl) (fun i hi => pair_row _ _ hi) rfl
theorem rows_nn {s s' : List UInt8} {A B : List (List UInt8)} {N M : Nat} (hA : A.length = N) (hB : B.length = M) (h : s' = s) :
    RowsLe (N + M + 1) (fun i => bif Nat.blt i (N + M) then (bif Nat.blt i N then strRow A i else strRow B (i - N)) else List.take 1 (List.drop (0 + (i - (N + M)) * 1) [AV.str s'])) (strRow (A ++ B ++ [s])) := by
  subst h
  exact rows_app (n1 := N) (n2 := M) (f1 := strRow A) (f2 := strRow B) (f3 := fun i => List.take 1 (List.drop (0 + i * 1) [AV.str s'])) (A := A) (B := B) (s := s') hA hB (fun i _ => rfl) (fun i _ => rfl) rfl
theorem five_rows (a b c d e : List UInt8) : RowsLe 5 (cutRow [.str a, .str b, .str c, .str d, .str e] 1) (strRow ([a, b] ++ [c, d] ++ [e])) := by
  intro i hi σ
  match i, hi with
  | 0, _ | 1, _ | 2, _ | 3, _ | 4, _ => exact ⟨rfl, trivial⟩
theorem nodesN_node (l r : Tree) : nodesN (.node l r) = nodesN l + nodesN r + 1 := by
  unfold nodesN
  show (nodesL l ++ nodesL r ++ [_]).length = _
  rw [List.length_append, List.length_append, List.length_singleton]
theorem nodesN_le : ∀ (d n : Nat) (F : Nat → Fact), growOk d n = true → 1 ≤ nodesN (growT d n F) ∧ nodesN (growT d n F) + 1 ≤ 3 * n := by
  intro d
  induction d with
  | zero =>
    intro n F h1
    simp only [growOk, Bool.and_eq_true] at h1
    have a := Nat.le_of_ble_eq_true h1.1
    have b := Nat.le_of_ble_eq_true h1.2
    simp at b; omega
  | succ d ih =>
    intro n F h1
    simp only [growOk, Bool.and_eq_true] at h1
    have a := Nat.le_of_ble_eq_true h1.1
    have b := Nat.le_of_ble_eq_true h1.2
    unfold growT
    cases hb : Nat.ble n 1 with
    | true =>
      show 1 ≤ 2 ∧ 2 + 1 ≤ 3 * n
      omega
    | false =>
      have hn : 2 ≤ n := Nat.lt_of_not_le fun e => by rw [Nat.ble_eq_true_of_le e] at hb; cases hb
      have hf := half_facts hn
      have hl := half_le (d := d) hn (by rw [Nat.pow_succ] at b; omega)
      have q1 := ih (halfN n) F (by simp only [growOk, Bool.and_eq_true]; exact ⟨Nat.ble_eq_true_of_le hf.1, Nat.ble_eq_true_of_le hl⟩)
      have q2 := ih (n - halfN n) (fun i => F (halfN n + i)) (by simp only [growOk, Bool.and_eq_true]; exact ⟨Nat.ble_eq_true_of_le (by omega), Nat.ble_eq_true_of_le (by omega)⟩)
      show 1 ≤ nodesN (.node _ _) ∧ nodesN (.node _ _) + 1 ≤ _
      rw [nodesN_node]
      omega
theorem growT_one {d n : Nat} (h : growOk d n = true) (hn : n = 1) (F : Nat → Fact) : growT d n F = .leaf (F 0) := by
  subst hn
  cases d with
  | zero => rfl
  | succ d => rfl
theorem rnodes_succ {d : Nat} (hd : d ≤ 19) (ih : RNodes d) : RNodes (d + 1) := by
  intro n F h1 h2
  have h1' := h1
  simp only [growOk, Bool.and_eq_true] at h1
  have a := Nat.le_of_ble_eq_true h1.1
  have b := Nat.le_of_ble_eq_true h1.2
  have hall := List.all_eq_true.1 h2
  have hd' : 2 ^ d ≤ 2 ^ 19 := Nat.pow_le_pow_right (by omega) hd
  have hn' : n ≤ 2 ^ d := by rw [Nat.pow_succ] at b; omega
  have e0 : Int.ofNat n = (n : Int) := rfl
  have ihT : RTrees (d + 1) := rtrees_all (d + 1) (by omega)
  have hT := topF_ok (d + 1) n F h1' h2
  have fA : factAt (fun i => factAV (F i)) = F := rfl
  refine ⟨fun hn => ?_, fun hn => ?_⟩
  · have eT := growT_one h1' hn F
    subst hn
    rw [eT] at hT
    refine CallGives.of_heap hII [kRTreeB (d + 1) ihT, kRHash, kREnc] (lamT_ok PP II []) 1000 ?_
    refine (nodes1_vc d F ihT).mpr ?_
    rw [fA, eT]
    have hT' : nodeOk (leafF (F 0)) = true := hT
    have hF := hall 0 (by simp)
    refine Asks.mk (isFacts_facts _ _) (Asks.mk h1' (Asks.mk h2 (asks_nodeOk hT' ?_ (Asks.mk hF (EqB.mk rfl (EqB.mk ?_ trivial))))))
    · kernel_rfl
    · kernel_rfl
  · have hn2 : 2 ≤ n := by omega
    have hf := half_facts hn2
    have hl := half_le hn2 hn'
    have eh : Int.toNat (Int.ofNat n) = n := rfl
    have ea : Int.toNat (Int.ofNat (halfN n) - (0 : Int)) = halfN n := by
      have : Int.ofNat (halfN n) = ((halfN n : Nat) : Int) := rfl
      omega
    have eb : Int.toNat (Int.ofNat n - Int.ofNat (halfN n)) = n - halfN n := by
      have : Int.ofNat (halfN n) = ((halfN n : Nat) : Int) := rfl
      omega
    have ez : Int.toNat (Int.ofNat (halfN n)) = halfN n := rfl
    have zf : (fun i => factAV (F (0 + i))) = fun i => factAV (F i) := by funext i; rw [Nat.zero_add]
    have fB : factAt (fun i => factAV (F (halfN n + i))) = fun i => F (halfN n + i) := rfl
    have e1 : Int.ofNat (halfN n) = ((halfN n : Nat) : Int) := rfl
    have gA : growOk d (halfN n) = true := by simp only [growOk, Bool.and_eq_true]; exact ⟨Nat.ble_eq_true_of_le hf.1, Nat.ble_eq_true_of_le hl⟩
    have gB : growOk d (n - halfN n) = true := by simp only [growOk, Bool.and_eq_true]; exact ⟨Nat.ble_eq_true_of_le (by omega), Nat.ble_eq_true_of_le (by omega)⟩
    have kA : factsOk (halfN n) F = true := List.all_eq_true.2 fun i hi => hall i (List.mem_range.2 (by have := List.mem_range.1 hi; omega))
    have kB : factsOk (n - halfN n) (fun i => F (halfN n + i)) = true := List.all_eq_true.2 fun i hi => hall _ (List.mem_range.2 (by have := List.mem_range.1 hi; omega))
    have nA := nodesN_le d _ F gA
    have nB := nodesN_le d _ (fun i => F (halfN n + i)) gB
    have oA := fun h : halfN n = 1 => growT_one gA h F
    have oB := fun h : n - halfN n = 1 => growT_one gB h fun i => F (halfN n + i)
    have hb : Nat.ble n 1 = false := by
      cases hb : Nat.ble n 1 with
      | true => have := Nat.le_of_ble_eq_true hb; omega
      | false => rfl
    have eg : growT (d + 1) n F = .node (growT d (halfN n) F) (growT d (n - halfN n) fun i => F (halfN n + i)) := by
      show (match Nat.ble n 1 with | true => _ | false => _) = _
      rw [hb]
    have b1 : (decide (0 ≤ Int.ofNat n) && decide (Int.ofNat n ≤ 1000000)) = true := by simp only [Bool.and_eq_true, decide_eq_true_eq]; omega
    have b2 : (decide (0 ≤ Int.ofNat (halfN n)) && decide (Int.ofNat (halfN n) ≤ Int.ofNat n)) = true := by simp only [Bool.and_eq_true, decide_eq_true_eq]; omega
    have b3 : (decide (0 ≤ Int.ofNat (halfN n)) && decide (Int.ofNat (halfN n) ≤ Int.ofNat n) && decide (Int.ofNat n ≤ Int.ofNat n)) = true := by
      simp only [Bool.and_eq_true, decide_eq_true_eq]; omega
    refine CallGives.of_heap hII [kRTreeB (d + 1) ihT, kRHash, kREnc, kRHalf, kRNodesB d ih] (lamT_ok PP II []) 1000 ?_
    refine (nodesN_vc d n (nodesN (growT (d + 1) n F)) F (nodesL (growT (d + 1) n F)) ihT ih).mpr ?_
    rw [eh, ea, eb, ez, zf, fA, fB]
    rw [eg] at hT ⊢
    have q0 : (factAt (fun i => factAV (F i)) 0) = F 0 := rfl
    generalize growT d (halfN n) F = A at *
    generalize (growT d (n - halfN n) fun i => F (halfN n + i)) = B at *
    have eL : nodesL (.node A B) = nodesL A ++ nodesL B ++ [hashS (topF (.node A B))] := rfl
    have eN := nodesN_node A B
    have lA : (nodesL A).length = nodesN A := rfl
    have lB : (nodesL B).length = nodesN B := rfl
    have size : n ≤ 524288 := by omega
    have reflF := factRefl F (halfN n) (n - halfN n)
    have row : ∀ (L : List (List UInt8)) i, strRow L i = strRow L i := fun _ _ => rfl
    refine Asks.mk (isFacts_facts _ _) (Asks.mk h1' (Asks.mk h2 (asks_nodeOk hT (by kernel_rfl) (Cond.mk (fun h => ?_) fun _ => ?_))))
    · simp only [decide_eq_true_eq] at h; omega
    · refine Asks.mk b1 (Asks.mk b2 (Asks.mk (isFacts_facts _ _) (Asks.mk gA (Asks.mk kA (Cond.mk (fun c1 => ?_) fun c1 => ?_)))))
      · have c1 := of_decide_eq_true c1
        refine Asks.mk b3 (Asks.mk b3 (Asks.mk reflF (Asks.mk (isFacts_facts _ fun i => F (halfN n + i)) (Asks.mk gB (Asks.mk kB (Cond.mk (fun c2 => ?_) fun c2 => ?_))))))
        · have c2 := of_decide_eq_true c2
          have uA := oA c1
          have uB := oB c2
          subst uA uB
          refine EqN.mk rfl ⟨?_, EqN.mk rfl trivial⟩
          exact five_rows _ _ _ _ _
        · have c2 := of_decide_eq_false c2
          have uA := oA c1
          subst uA
          refine Asks.mk ?_ (Cond.mk (fun h => ?_) fun _ => Asks.mk ?_ (EqN.mk ?_ ⟨?_, EqN.mk ?_ trivial⟩))
          · rw [decide_eq_true (Nat.le_refl _), decide_eq_true (show (2 + nodesN B) * 16 ≤ 140737488355328 by omega)]; rfl
          · simp only [decide_eq_true_eq] at h; omega
          · rw [decide_eq_true (Nat.le_refl _), decide_eq_true (show (2 + nodesN B + 1) * 16 ≤ 140737488355328 by omega)]; rfl
          · rw [eN]; rfl
          · refine rows_pn lB ?_
            kernel_rfl
          · rw [eN]; rfl
      · have c1 := of_decide_eq_false c1
        refine Asks.mk b3 (Asks.mk b3 (Asks.mk reflF (Asks.mk (isFacts_facts _ fun i => F (halfN n + i)) (Asks.mk gB (Asks.mk kB (Cond.mk (fun c2 => ?_) fun c2 => ?_))))))
        · have c2 := of_decide_eq_true c2
          have uB := oB c2
          subst uB
          refine Asks.mk ?_ (Asks.mk ?_ (EqN.mk ?_ ⟨?_, EqN.mk ?_ trivial⟩))
          · rw [decide_eq_true (Nat.le_refl _), decide_eq_true (show (nodesN A + 2) * 16 ≤ 140737488355328 by omega)]; rfl
          · rw [decide_eq_true (Nat.le_refl _), decide_eq_true (show (nodesN A + 2 + 1) * 16 ≤ 140737488355328 by omega)]; rfl
          · rw [eN]; rfl
          · refine rows_np lA ?_
            kernel_rfl
          · rw [eN]; rfl
        · refine Asks.mk ?_ (Asks.mk ?_ (EqN.mk ?_ ⟨?_, EqN.mk ?_ trivial⟩))
          · rw [decide_eq_true (Nat.le_refl _), decide_eq_true (Nat.le_refl _), decide_eq_true (show (nodesN A + nodesN B) * 16 ≤ 140737488355328 by omega)]; rfl
          · rw [decide_eq_true (Nat.le_refl _), decide_eq_true (show (nodesN A + nodesN B + 1) * 16 ≤ 140737488355328 by omega)]; rfl
          · rw [eN]
          · refine rows_nn lA lB ?_
            kernel_rfl
          · rw [eN]
theorem rnodes_zero : RNodes 0 := by
  intro n F h1 _
  simp only [growOk, Bool.and_eq_true] at h1
  have a := Nat.le_of_ble_eq_true h1.1
  have b := Nat.le_of_ble_eq_true h1.2
  simp at b; omega
theorem rnodes_all : ∀ d, d ≤ 20 → RNodes d
  | 0, _ => rnodes_zero
  | d + 1, h => rnodes_succ (by omega) (rnodes_all d (by omega))
noncomputable def kRNodes : Known PP II := kRNodesB 20 (rnodes_all 20 (by omega))
end Go.Sx
end
section
set_option maxRecDepth 1000000
namespace Go.Sx
open Go
theorem of_kl {ks : List (Known PP II)} {T : LTab} {f : FuncId} {args : List AV} {a' : AV} (h : kb ks T f args (fun a => ∀ σ, AV.le σ a a')) : CallGives PP II f args (AH.blank 12) (.ret a' (AH.blank 12)) := by
  obtain ⟨o, h1, h2⟩ := kbody_ok hII ks (lamT_ok PP II T) 1000 f args (AH.blank 12) _ _ h
  cases o with
  | ret a H1 =>
    obtain ⟨x, H2, k1, k2⟩ := frz_ok RI.prop_ok _ _ _ _ h1
    have k1 : Asks (Nat.ble 12 H2.n) (∀ σ, AV.le σ x a') := k1
    obtain ⟨hb, k1⟩ := Asks.and k1
    exact (h2.fzRes k2).le (ResLe.of [] (HeapLe.of rfl rfl rfl rfl hb (allN_iff.2 fun _ _ => trivial)) (k1 _))
  | pan a H1 => exact h1.elim
theorem hashed0_vc (F : Nat → Fact) (Q : AV → Prop) : (kb [kRTop] [] 18 [factsAV 0 F] Q) = (Q (AV.fslice (1 : Nat) (1 : Nat) fun i => List.take (1 : Nat) (List.drop ((0 : Nat) + i * (1 : Nat)) [AV.str (topS (0 : Int) [])]))) := by kernel_rfl
theorem hashed_vc (n : Nat) (F : Nat → Fact) (Q : AV → Prop) : (kb [kRTop, kRNodes, kRTree, kRDig] [] 18 [factsAV n F] Q) = (let zz1 := (digF { lo := fun j => if h : j = 0 then Node.lo (topF (growT 20 n (factAt fun i => factAV (F i)))) 0 else if h : j = 1 then Node.lo (topF (growT 20 n (factAt fun i => factAV (F i)))) 1 else if h : j = 2 then Node.lo (topF (growT 20 n (factAt fun i => factAV (F i)))) 2 else if h : j = 3 then Node.lo (topF (growT 20 n (factAt fun i => factAV (F i)))) 3 else if h : j = 4 then Node.lo (topF (growT 20 n (factAt fun i => factAV (F i)))) 4 else if h : j = 5 then Node.lo (topF (growT 20 n (factAt fun i => factAV (F i)))) 5 else if h : j = 6 then Node.lo (topF (growT 20 n (factAt fun i => factAV (F i)))) 6 else if h : j = 7 then Node.lo (topF (growT 20 n (factAt fun i => factAV (F i)))) 7 else 0, hi := fun j => if h : j = 0 then Node.hi (topF (growT 20 n (factAt fun i => factAV (F i)))) 0 else if h : j = 1 then Node.hi (topF (growT 20 n (factAt fun i => factAV (F i)))) 1 else if h : j = 2 then Node.hi (topF (growT 20 n (factAt fun i => factAV (F i)))) 2 else if h : j = 3 then Node.hi (topF (growT 20 n (factAt fun i => factAV (F i)))) 3 else if h : j = 4 then Node.hi (topF (growT 20 n (factAt fun i => factAV (F i)))) 4 else if h : j = 5 then Node.hi (topF (growT 20 n (factAt fun i => factAV (F i)))) 5 else if h : j = 6 then Node.hi (topF (growT 20 n (factAt fun i => factAV (F i)))) 6 else if h : j = 7 then Node.hi (topF (growT 20 n (factAt fun i => factAV (F i)))) 7 else 0, l := Node.l (topF (growT 20 n (factAt fun i => factAV (F i)))), r := Node.r (topF (growT 20 n (factAt fun i => factAV (F i)))) });
 let zz2 := (nodeOk { lo := fun j => if h : j = 0 then Node.lo (topF (growT 20 n (factAt fun i => factAV (F i)))) 0 else if h : j = 1 then Node.lo (topF (growT 20 n (factAt fun i => factAV (F i)))) 1 else if h : j = 2 then Node.lo (topF (growT 20 n (factAt fun i => factAV (F i)))) 2 else if h : j = 3 then Node.lo (topF (growT 20 n (factAt fun i => factAV (F i)))) 3 else if h : j = 4 then Node.lo (topF (growT 20 n (factAt fun i => factAV (F i)))) 4 else if h : j = 5 then Node.lo (topF (growT 20 n (factAt fun i => factAV (F i)))) 5 else if h : j = 6 then Node.lo (topF (growT 20 n (factAt fun i => factAV (F i)))) 6 else if h : j = 7 then Node.lo (topF (growT 20 n (factAt fun i => factAV (F i)))) 7 else 0, hi := fun j => if h : j = 0 then Node.hi (topF (growT 20 n (factAt fun i => factAV (F i)))) 0 else if h : j = 1 then Node.hi (topF (growT 20 n (factAt fun i => factAV (F i)))) 1 else if h : j = 2 then Node.hi (topF (growT 20 n (factAt fun i => factAV (F i)))) 2 else if h : j = 3 then Node.hi (topF (growT 20 n (factAt fun i => factAV (F i)))) 3 else if h : j = 4 then Node.hi (topF (growT 20 n (factAt fun i => factAV (F i)))) 4 else if h : j = 5 then Node.hi (topF (growT 20 n (factAt fun i => factAV (F i)))) 5 else if h : j = 6 then Node.hi (topF (growT 20 n (factAt fun i => factAV (F i)))) 6 else if h : j = 7 then Node.hi (topF (growT 20 n (factAt fun i => factAV (F i)))) 7 else 0, l := Node.l (topF (growT 20 n (factAt fun i => factAV (F i)))), r := Node.r (topF (growT 20 n (factAt fun i => factAV (F i)))) });
 (Cond (decide (Int.ofNat n = 0)) (Q (AV.fslice 1 1 fun i => List.take 1 (List.drop (0 + i * 1) [AV.str (topS 0 [])]))) (Asks (isFacts n fun i => factAV (F i)) (Asks (growOk 20 n) (Asks (factsOk n (factAt fun i => factAV (F i))) (Cond (decide (n = 1)) (Asks (isFacts n fun i => factAV (F i)) (Asks (growOk 20 n) (Asks (factsOk n (factAt fun i => factAV (F i))) (Asks zz2 (Asks (okI (Int.ofNat n) && Nat.ble (List.length zz1) 1000) (Q (AV.fslice 3 1 fun i => List.take 1 (List.drop (i * 1) [AV.str (intsF (factInts (factAt (fun i => factAV (F i)) 0))), AV.str (hashS (leafF (factAt (fun i => factAV (F i)) 0))), AV.str (topS (Int.ofNat n) zz1)])))))))) (Asks (isFacts n fun i => factAV (F i)) (Asks (growOk 20 n) (Asks (factsOk n (factAt fun i => factAV (F i))) (Asks zz2 (Asks (okI (Int.ofNat n) && Nat.ble (List.length zz1) 1000) (Asks (decide (nodesN (growT 20 n (factAt fun i => factAV (F i))) ≤
 nodesN (growT 20 n (factAt fun i => factAV (F i)))) && true && true && decide ((nodesN (growT 20 n (factAt fun i => factAV (F i))) + 1) * 16 ≤ 140737488355328) && true) (Asks ((List.all (List.range (nodesN (growT 20 n (factAt fun i => factAV (F i))) + 1)) fun i => AVs.free (bif Nat.blt i (nodesN (growT 20 n (factAt fun i => factAV (F i)))) then strRow (nodesL (growT 20 n (factAt fun i => factAV (F i)))) i else List.take 1 (List.drop (0 + (i - nodesN (growT 20 n (factAt fun i => factAV (F i)))) * 1) [AV.str (topS (Int.ofNat n) zz1)]))) && decide (nodesN (growT 20 n (factAt fun i => factAV (F i))) + 1 ≤ nodesN (growT 20 n (factAt fun i => factAV (F i))) + 1)) (Q (AV.fslice (nodesN (growT 20 n (factAt fun i => factAV (F i))) + 1) 1 fun i => bif Nat.blt i (nodesN (growT 20 n (factAt fun i => factAV (F i)))) then strRow (nodesL (growT 20 n (factAt fun i => factAV (F i)))) i else List.take 1
 (List.drop (0 + (i - nodesN (growT 20 n (factAt fun i => factAV (F i)))) * 1) [AV.str (topS (Int.ofNat n) zz1)])))))))))))))))) := by kernel_rfl
end Go.Sx
end
section
set_option maxRecDepth 1000000
namespace Go.Sx
open Go
theorem root41_ok {n : Int} {s : List UInt8} (hn : okI n = true) (hs : s.length ≤ 1000) : CallGives PP II 41 [.int .i64 n, .str s] HB (.ret (.str (rootF n s)) HB) := by
  refine of_kh (ks := [kInts, kSum]) (T := []) (fun σ => rfl) ?_
  rw [root41_vc n s]
  have hl := intsF_len [n]
  have e : List.length [n] = 1 := rfl
  rw [e] at hl
  refine Asks.mk ?_ (Asks.mk (decide_eq_true (by omega)) (Asks.mk (decide_eq_true (by simp only [sapp_len, List.length_cons, List.length_nil]; omega)) (Asks.mk (Nat.ble_eq_true_of_le (by simp only [sapp_len, List.length_cons, List.length_nil]; omega)) rfl)))
  unfold okI at hn
  rw [hn]; rfl
noncomputable def kRoot41 : Known PP II := Known.onHB 41
  (fun X args kn => match args with
    | [.int .i64 n, .str s] => X.assert (okI n && Nat.ble s.length 1000) (kn (.str (rootF n s)))
    | _ => X.fail)
  fun X sem hX args kn h => by
    split at h
    · obtain ⟨h1, h2⟩ := hX.assert _ _ h
      simp only [Bool.and_eq_true] at h1
      exact ⟨_, h2, fun _ => rfl, fun _ => rfl, root41_ok h1.1 (Nat.le_of_ble_eq_true h1.2)⟩
    · exact absurd h hX.fail
theorem root16_vc (n : Nat) (F : Nat → Fact) (Q : AV → Prop) : (kh [kValids, kGrow, kDig42, kRoot41] [] 16 [factsAV n F] Q) = (let zz1 := (digF { lo := fun j => if h : j = 0 then Node.lo (topF (growT 20 n (factAt fun i => factAV (F i)))) 0 else if h : j = 1 then Node.lo (topF (growT 20 n (factAt fun i => factAV (F i)))) 1 else if h : j = 2 then Node.lo (topF (growT 20 n (factAt fun i => factAV (F i)))) 2 else if h : j = 3 then Node.lo (topF (growT 20 n (factAt fun i => factAV (F i)))) 3 else if h : j = 4 then Node.lo (topF (growT 20 n (factAt fun i => factAV (F i)))) 4 else if h : j = 5 then Node.lo (topF (growT 20 n (factAt fun i => factAV (F i)))) 5 else if h : j = 6 then Node.lo (topF (growT 20 n (factAt fun i => factAV (F i)))) 6 else if h : j = 7 then Node.lo (topF (growT 20 n (factAt fun i => factAV (F i)))) 7 else 0, hi := fun j => if h : j = 0 then Node.hi (topF (growT 20 n (factAt fun i => factAV (F i)))) 0 else if h : j = 1 then Node.hi (topF (growT 20 n (factAt fun i => factAV (F i)))) 1 else if h : j = 2 then Node.hi (topF (growT 20 n (factAt fun i => factAV (F i)))) 2 else if h : j = 3 then Node.hi (topF (growT 20 n (factAt fun i => factAV (F i)))) 3 else if h : j = 4 then Node.hi (topF (growT 20 n (factAt fun i => factAV (F i)))) 4 else if h : j = 5 then Node.hi (topF (growT 20 n (factAt fun i => factAV (F i)))) 5 else if h : j = 6 then Node.hi (topF (growT 20 n (factAt fun i => factAV (F i)))) 6 else if h : j = 7 then Node.hi (topF (growT 20 n (factAt fun i => factAV (F i)))) 7 else 0, l := Node.l (topF (growT 20 n (factAt fun i => factAV (F i)))), r := Node.r (topF (growT 20 n (factAt fun i => factAV (F i)))) });
 (Asks (decide (n ≤ 1000000) && isFacts n fun i => factAV (F i)) (Cond (!validsF n (factAt fun i => factAV (F i))) (Q (AV.tup [AV.str [], AV.int .i64 210])) (Cond (decide (Int.ofNat n = 0)) (Q (AV.tup [AV.str (rootF 0 []), AV.int .i64 0])) (Asks (isFacts n fun i => factAV (F i)) (Asks (growOk 20 n) (Asks (factsOk n (factAt fun i => factAV (F i))) (Asks (nodeOk { lo := fun j => if h : j = 0 then Node.lo (topF (growT 20 n (factAt fun i => factAV (F i)))) 0 else if h : j = 1 then Node.lo (topF (growT 20 n (factAt fun i => factAV (F i)))) 1 else if h : j = 2 then Node.lo (topF (growT 20 n (factAt fun i => factAV (F i)))) 2 else if h : j = 3 then Node.lo (topF (growT 20 n (factAt fun i => factAV (F i)))) 3 else if h : j = 4 then Node.lo (topF (growT 20 n (factAt fun i => factAV (F i)))) 4 else if h : j = 5 then Node.lo (topF (growT 20 n (factAt fun i => factAV (F i)))) 5 else if h : j = 6 then Node.lo (topF (growT 20 n (factAt fun i => factAV (F i)))) 6 else if h : j = 7 then Node.lo (topF (growT 20 n (factAt fun i => factAV (F i)))) 7 else 0, hi := fun j => if h : j = 0 then Node.hi (topF (growT 20 n (factAt fun i => factAV (F i)))) 0 else if h : j = 1 then Node.hi (topF (growT 20 n (factAt fun i => factAV (F i)))) 1 else if h : j = 2 then Node.hi (topF (growT 20 n (factAt fun i => factAV (F i)))) 2 else if h : j = 3 then Node.hi (topF (growT 20 n (factAt fun i => factAV (F i)))) 3 else if h : j = 4 then Node.hi (topF (growT 20 n (factAt fun i => factAV (F i)))) 4 else if h : j = 5 then Node.hi (topF (growT 20 n (factAt fun i => factAV (F i)))) 5 else if h : j = 6 then Node.hi (topF (growT 20 n (factAt fun i => factAV (F i)))) 6 else if h : j = 7 then Node.hi (topF (growT 20 n (factAt fun i => factAV (F i)))) 7 else 0, l := Node.l (topF (growT 20 n (factAt fun i => factAV (F i)))), r := Node.r (topF (growT 20 n (factAt fun i => factAV (F i)))) })
 (Asks (okI (Int.ofNat n) && Nat.ble (List.length zz1) 1000) (Q (AV.tup [AV.str (rootF (Int.ofNat n) zz1), AV.int .i64 0]))))))))))) := by kernel_rfl
end Go.Sx
end
