/- CertifyRoot is proved, part 22. -/
import Derived.Test.YtleifmkjbmhlpaaGreatDoorX21
import Derived.Test.YtleifmkjbmhlpaaGreatDoorX17
import Derived.Test.YtleifmkjbmhlpaaGreatDoorX20
set_option linter.unusedVariables false
set_option linter.unusedSimpArgs false
set_option linter.unusedSectionVars false
section
set_option maxRecDepth 1000000
namespace Go.Sx
open Go
def treeF (n : Nat) (F : Nat → Fact) : Tree := growT 20 n F
def rootR (n : Nat) (F : Nat → Fact) : List UInt8 × Int := bif validsF n F then (bif Nat.beq n 0 then (rootF 0 [], 0) else (rootF n (digF (topF (treeF n F))), 0)) else ([], 210)
def rootOk (n : Nat) (F : Nat → Fact) : Bool := Nat.beq n 0 || (growOk 20 n && factsOk n F)
theorem root16_ok {n : Nat} {F : Nat → Fact} (h : rootOk n F = true) : CallGives PP II 16 [factsAV n F] HB (.ret (.tup [.str (rootR n F).1, .int .i64 (rootR n F).2]) HB) := by
  refine of_kh (ks := [kValids, kGrow, kDig42, kRoot41]) (T := []) (fun σ => ⟨rfl, ⟨rfl, rfl⟩, trivial⟩) ?_
  rw [root16_vc n F]
  have fA : factAt (fun i => factAV (F i)) = F := rfl
  have e0 : Int.ofNat n = (n : Int) := rfl
  have hn : n ≤ 1000000 ∧ (n ≠ 0 → growOk 20 n = true ∧ factsOk n F = true) := by
    simp only [rootOk, Bool.or_eq_true, Bool.and_eq_true] at h
    rcases h with h | h
    · have := Nat.eq_of_beq_eq_true h
      exact ⟨by omega, fun e => absurd this e⟩
    · have h1 := h.1
      simp only [growOk, Bool.and_eq_true] at h1
      have b := Nat.le_of_ble_eq_true h1.2
      exact ⟨by omega, fun _ => h⟩
  rw [fA]
  refine Asks.mk (by rw [isFacts_facts, decide_eq_true hn.1]; rfl) (Cond.mk (fun hv => ?_) fun hv => Cond.mk (fun h0 => ?_) fun h0 => ?_)
  · have hv : validsF n F = false := by simpa using hv
    unfold rootR; rw [hv]; rfl
  · have hv : validsF n F = true := by simpa using hv
    have h0 : n = 0 := by have := of_decide_eq_true h0; omega
    subst h0
    unfold rootR; rw [hv]; rfl
  · have hv : validsF n F = true := by simpa using hv
    have h0 : n ≠ 0 := by have := of_decide_eq_false h0; omega
    obtain ⟨g1, g2⟩ := hn.2 h0
    have ok := topF_ok 20 n F g1 g2
    have hb : Nat.beq n 0 = false := by
      cases hb : Nat.beq n 0 with
      | true => exact absurd (Nat.eq_of_beq_eq_true hb) h0
      | false => rfl
    refine Asks.mk (isFacts_facts _ _) (Asks.mk g1 (Asks.mk g2 (Asks.mk ((rfl : _ = nodeOk (topF (growT 20 n F))).trans ok) (Asks.mk ?_ ?_))))
    · have : okI (Int.ofNat n) = true := by unfold okI; simp only [Bool.and_eq_true, decide_eq_true_eq]; omega
      rw [this]; rfl
    · unfold rootR; rw [hv, hb]; rfl
noncomputable def kRoot16 : Known PP II := Known.onHB 16
  (fun X args kn => match args with
    | [.fslice n 10 f] => X.assert (isFacts n f) (X.assert (rootOk n (factAt f)) (kn (.tup [.str (rootR n (factAt f)).1, .int .i64 (rootR n (factAt f)).2])))
    | _ => X.fail)
  fun X sem hX args kn h => by
    split at h
    · rename_i n f
      obtain ⟨e1, k1⟩ := hX.assert _ _ h
      obtain ⟨e2, k2⟩ := hX.assert _ _ k1
      exact ⟨_, k2, fun _ => rfl, fun _ => rfl, (root16_ok e2).argsLe ⟨isFacts_ok e1, trivial⟩⟩
    · exact absurd h hX.fail
end Go.Sx
end
section
set_option maxRecDepth 1000000
namespace Go.Sx
open Go
def hashedL (n : Nat) (F : Nat → Fact) : List (List UInt8) := bif Nat.beq n 0 then [topS 0 []] else nodesL (growT 20 n F) ++ [topS n (digF (topF (growT 20 n F)))]
theorem one_row (s : List UInt8) (σ : Nat → Nat) {i : Nat} (h : i < 1) : AVs.le σ (List.take 1 (List.drop (0 + i * 1) [AV.str s])) (strRow [s] i) := by
  match i, h with
  | 0, _ => exact ⟨rfl, trivial⟩
theorem three_rows (a b c : List UInt8) (σ : Nat → Nat) {i : Nat} (h : i < 3) : AVs.le σ (List.take 1 (List.drop (i * 1) [AV.str a, AV.str b, AV.str c])) (strRow ([a, b] ++ [c]) i) := by
  match i, h with
  | 0, _ | 1, _ | 2, _ => exact ⟨rfl, trivial⟩
theorem last_row {L : List (List UInt8)} {N : Nat} {s s' : List UInt8} (hL : L.length = N) (h : s' = s) (i : Nat) (hi : i < N + 1) : (bif Nat.blt i N then strRow L i else List.take 1 (List.drop (0 + (i - N) * 1) [AV.str s'])) = strRow (L ++ [s]) i := by
  subst h
  unfold strRow
  rw [List.getD_eq_getElem?_getD, List.getD_eq_getElem?_getD]
  by_cases c : i < N
  · rw [(Nat.blt_eq ..).mpr c, cond_true, List.getElem?_append_left (by omega)]
  · have : i = N := by omega
    rw [bltF c, cond_false, this, Nat.sub_self, List.getElem?_append_right (by omega)]
    have : N - L.length = 0 := by omega
    rw [this]; rfl
theorem okI_small {n : Nat} (h : n ≤ 1000000) : okI (Int.ofNat n) = true := by
  unfold okI
  have e : Int.ofNat n = (n : Int) := rfl
  rw [decide_eq_true (show (-4611686018427387903 : Int) ≤ Int.ofNat n by omega), decide_eq_true (show Int.ofNat n ≤ 4611686018427387903 by omega)]; rfl
theorem hashed_ok {n : Nat} {F : Nat → Fact} (h : rootOk n F = true) : CallGives PP II 18 [factsAV n F] (AH.blank 12) (.ret (.fslice (hashedL n F).length 1 (strRow (hashedL n F))) (AH.blank 12)) := by
  simp only [rootOk, Bool.or_eq_true, Bool.and_eq_true] at h
  by_cases h0 : n = 0
  · subst h0
    refine of_kl (ks := [kRTop]) (T := []) ?_
    rw [hashed0_vc]
    exact fun σ => ⟨rfl, rfl, fun i hi => one_row _ σ hi⟩
  · obtain ⟨hg, hf⟩ : growOk 20 n = true ∧ factsOk n F = true := by
      rcases h with h | h
      · exact absurd (Nat.eq_of_beq_eq_true h) h0
      · exact h
    have hg' := hg
    simp only [growOk, Bool.and_eq_true] at hg'
    have b := Nat.le_of_ble_eq_true hg'.2
    have hn : n ≤ 524288 := by omega
    have hT := topF_ok 20 n F hg hf
    have hN := nodesN_le 20 n F hg
    have e0 : Nat.beq n 0 = false := by
      cases e : Nat.beq n 0 with
      | false => rfl
      | true => exact absurd (Nat.eq_of_beq_eq_true e) h0
    have eH : hashedL n F = nodesL (growT 20 n F) ++ [topS n (digF (topF (growT 20 n F)))] := by unfold hashedL; rw [e0]; rfl
    have fA : factAt (fun i => factAV (F i)) = F := rfl
    have q0 : (factAt (fun i => factAV (F i)) 0) = F 0 := rfl
    have one := fun h : n = 1 => growT_one hg h F
    have okn : okI (Int.ofNat n) = true := okI_small (by omega)
    rw [eH]
    refine of_kl (ks := [kRTop, kRNodes, kRTree, kRDig]) (T := []) ?_
    rw [hashed_vc, fA]
    have eI : Int.ofNat n = (n : Int) := rfl
    have lN : (nodesL (growT 20 n F)).length = nodesN (growT 20 n F) := rfl
    generalize growT 20 n F = A at *
    have dl : ∀ x : Node, (digF x).length = 32 := fun x => digF_len x
    refine Cond.mk (fun c => ?_) fun _ => Asks.mk (isFacts_facts _ _) (Asks.mk hg (Asks.mk hf (Cond.mk (fun c => ?_) fun c => ?_)))
    · simp only [decide_eq_true_eq] at c; omega
    · have u := one (of_decide_eq_true c)
      subst u
      refine Asks.mk (isFacts_facts _ _) (Asks.mk hg (Asks.mk hf (asks_nodeOk hT (by kernel_rfl) (Asks.mk ?_ ?_))))
      · rw [okn, dl]; rfl
      · refine fun σ => ⟨rfl, rfl, fun i hi => three_rows _ _ _ σ hi⟩
    · refine Asks.mk (isFacts_facts _ _) (Asks.mk hg (Asks.mk hf (asks_nodeOk hT (by kernel_rfl) (Asks.mk ?_ (Asks.mk ?_ (Asks.mk ?_ ?_))))))
      · rw [okn, dl]; rfl
      · rw [decide_eq_true (Nat.le_refl _), decide_eq_true (show (nodesN A + 1) * 16 ≤ 140737488355328 by omega)]; rfl
      · rw [decide_eq_true (Nat.le_refl _), Bool.and_true]
        refine List.all_eq_true.2 fun i hi => ?_
        have hi : i < nodesN A + 1 := List.mem_range.1 hi
        rw [last_row lN rfl i hi]
        rfl
      · refine fun σ => ⟨?_, rfl, fun i hi => ?_⟩
        · show nodesN A + 1 = _
          rw [List.length_append, lN]; rfl
        · have hi : i < nodesN A + 1 := hi
          have e := last_row (s := topS n (digF (topF A))) (s' := topS n (digF (topF A))) lN rfl i hi
          have e2 : ∀ s' : List UInt8, s' = topS n (digF (topF A)) → AVs.le σ (bif Nat.blt i (nodesN A) then strRow (nodesL A) i else List.take 1 (List.drop (0 + (i - nodesN A) * 1) [AV.str s'])) (strRow (nodesL A ++ [topS n (digF (topF A))]) i) := fun s' hs => by
            subst hs
            rw [e]; exact strRow_le σ _ i
          refine e2 _ ?_
          kernel_rfl
noncomputable def kRHashed : Known PP II := Known.pure 18
  (fun X args kn => match args with
    | [.fslice n 10 f] => X.assert (isFacts n f) (X.assert (rootOk n (factAt f)) (kn (.fslice (hashedL n (factAt f)).length 1 (strRow (hashedL n (factAt f))))))
    | _ => X.fail)
  fun X sem hX args kn h => by
    split at h
    · rename_i n f
      obtain ⟨e1, k1⟩ := hX.assert _ _ h
      obtain ⟨e2, k2⟩ := hX.assert _ _ k1
      exact ⟨_, k2, fun _ => rfl, fun _ => rfl, (hashed_ok e2).argsLe ⟨isFacts_ok e1, trivial⟩⟩
    · exact absurd h hX.fail
end Go.Sx
end
section
set_option maxRecDepth 1000000
namespace Go.Sx
open Go
structure SL where
  (n : Nat) (S : Nat → List UInt8) (m : Nat) (T : Nat → List UInt8)
def sRow (S : Nat → List UInt8) (i : Nat) : List AV := [.str (S i)]
noncomputable def h17 (Z : Nat → List UInt8) (k : Nat) : AH := { n := 13, t := Tr.ofList [(12, .rows k 1 (sRow Z) (.ty 9))] }
noncomputable def s17a (w : SL) (Z : Nat → List UInt8) (x : Int × Nat) : St := { t := Tr.ofList [(0, .fslice w.n 1 (sRow w.S)), (1, .fslice w.m 1 (sRow w.T)), (4, .bool false), (5, .own 12 x.2 1), (6, .int .i64 x.1)], nt := 58, H := h17 Z x.2, df := [] }
noncomputable def e17a (w : SL) (Z : Nat → List UInt8) : GE := .one (.x 0 { t := Tr.ofList [(0, .fslice w.n 1 (sRow w.S)), (1, .fslice w.m 1 (sRow w.T)), (4, .bool false), (5, .own 12 w.m 1)], nt := 58, H := h17 Z w.m, df := [] })
noncomputable def s17b (w : SL) (Z : Nat → List UInt8) (i : Int) : St := { t := Tr.ofList [(0, .fslice w.n 1 (sRow w.S)), (1, .fslice w.m 1 (sRow w.T)), (4, .bool false), (5, .own 12 w.m 1), (7, .int .i64 i)], nt := 58, H := h17 Z w.m, df := [] }
noncomputable def e17b (b : Bool) : GE := .cond b (.one (.r { t := Tr.ofList [(4, .bool true)], nt := 58, H := AH.blank 13, df := [] })) (.one (.x 2 { t := .e, nt := 58, H := AH.blank 13, df := [] }))
noncomputable def s17c (w : SL) (Z : Nat → List UInt8) (i : Int) (s : List UInt8) (k : Int) : St := { t := Tr.ofList [(0, .fslice w.n 1 (sRow w.S)), (1, .fslice w.m 1 (sRow w.T)), (4, .bool false), (5, .own 12 w.m 1), (7, .int .i64 i), (8, .str s), (9, .int .i64 k)], nt := 58, H := h17 Z w.m, df := [] }
noncomputable def e17c (w : SL) (Z : Nat → List UInt8) (i : Int) (b : Bool) : GE := .cond b (.one (.r { t := Tr.ofList [(4, .bool true)], nt := 58, H := AH.blank 13, df := [] })) (.one (.x 4 (s17b w Z i)))
theorem colA_step (w : SL) (Z : Nat → List UInt8) (i : Int) (k : Nat) (Q : Prop) : (kr [kRSum] [] 17 3004 12 (s17a w Z) (fun _ => e17a w Z) (fun x => (x.1 + 1, x.2 + 1)) Q (i, k)) = (Cond (decide (i < Int.ofNat w.m)) (Asks (decide (0 ≤ i) && decide (i < Int.ofNat w.m)) (Asks (decide (List.length (w.T (Int.toNat i)) ≤ 900000)) (Asks (decide (k ≤ k) && true && true && decide ((k + 1) * 16 ≤ 140737488355328) && true) (Asks (inR .i64 (i + 1)) (EqN (k + 1) (k + 1) (RowsLe (k + 1) (fun i_1 => bif Nat.blt i_1 k then sRow Z i_1 else List.take 1 (List.drop (0 + (i_1 - k) * 1) [AV.str (sumF (w.T (Int.toNat i)))])) (sRow Z) ∧ EqN w.m w.m (RowsLe w.m (sRow w.T) (sRow w.T) ∧ EqN (k + 1) (k + 1) (EqN w.n w.n (RowsLe w.n (sRow w.S) (sRow w.S) ∧ false = false ∧ EqI (i + 1) (i + 1) Q))))))))) (EqN k w.m (RowsLe k (sRow Z) (sRow Z) ∧ EqN w.m w.m (RowsLe w.m (sRow w.T) (sRow w.T) ∧ EqN k w.m (EqN w.n w.n
 (RowsLe w.n (sRow w.S) (sRow w.S) ∧ false = false ∧ True)))))) := by kernel_rfl
theorem colC_step (w : SL) (Z : Nat → List UInt8) (i : Int) (s : List UInt8) (b : Bool) (k : Int) (Q : Prop) : (kr [] [] 17 11004 13 (s17c w Z i s) (fun _ => e17c w Z i b) (fun k => k + 1) Q k) = (Cond (decide (k < Int.ofNat w.m)) (Asks (decide (0 ≤ i) && decide (i < Int.ofNat w.n)) (Asks (decide (0 ≤ k) && decide (k < Int.ofNat w.m)) (Cond (!List.beq (w.S (Int.toNat i)) (w.T (Int.toNat k))) (Asks (decide (0 ≤ k) && decide (k < Int.ofNat w.m)) (Asks (decide (Int.toNat k < w.m)) (Cond (List.beq s (Z (Int.toNat k))) (Cond b (true = true ∧ True) False) (Asks (inR .i64 (k + 1)) (EqN w.m w.m (RowsLe w.m (sRow Z) (sRow Z) ∧ EqI i i (EqN w.m w.m (RowsLe w.m (sRow w.T) (sRow w.T) ∧ EqI (k + 1) (k + 1) (EqN w.m w.m (EqN w.n w.n (RowsLe w.n (sRow w.S) (sRow w.S) ∧ EqB s s (false = false ∧ Q)))))))))))) (Asks (inR .i64 (k + 1)) (EqN w.m w.m (RowsLe w.m (sRow Z) (sRow Z) ∧ EqI i i (EqN w.m w.m
 (RowsLe w.m (sRow w.T) (sRow w.T) ∧ EqI (k + 1) (k + 1) (EqN w.m w.m (EqN w.n w.n (RowsLe w.n (sRow w.S) (sRow w.S) ∧ EqB s s (false = false ∧ Q)))))))))))) (Cond b False (EqN w.m w.m (RowsLe w.m (sRow Z) (sRow Z) ∧ EqI i i (EqN w.m w.m (RowsLe w.m (sRow w.T) (sRow w.T) ∧ EqN w.m w.m (EqN w.n w.n (RowsLe w.n (sRow w.S) (sRow w.S) ∧ false = false ∧ True)))))))) := by kernel_rfl
theorem colB_step (w : SL) (Z : Nat → List UInt8) (i : Int) (b c : Bool) (Q : Prop) : (kr [kRSum] [(11004, 13, s17c w Z i (sumF (w.S (Int.toNat i))) 0, e17c w Z i c)] 17 7004 13 (s17b w Z) (fun _ => e17b b) (fun i => i + 1) Q i) = (Cond (decide (i < Int.ofNat w.n)) (Asks (decide (0 ≤ i) && decide (i < Int.ofNat w.n)) (Asks (decide (List.length (w.S (Int.toNat i)) ≤ 900000)) (LoopAt PP II false (loopOf II 17 11004) 13 (s17c w Z i (sumF (w.S (Int.toNat i))) 0) (e17c w Z i c) ∧ EqN w.m w.m (RowsLe w.m (sRow Z) (sRow Z) ∧ EqI i i (EqN w.m w.m (RowsLe w.m (sRow w.T) (sRow w.T) ∧ EqN w.m w.m (EqN w.n w.n (RowsLe w.n (sRow w.S) (sRow w.S) ∧ EqB (sumF (w.S (Int.toNat i))) (sumF (w.S (Int.toNat i))) (false = false ∧ Cond c (Cond b (true = true ∧ True) False) (Asks (inR .i64 (i + 1)) (EqN w.m w.m (RowsLe w.m (sRow Z) (sRow Z) ∧ EqI (i + 1) (i + 1) (EqN w.m w.m (RowsLe w.m (sRow w.T) (sRow w.T) ∧
 EqN w.m w.m (EqN w.n w.n (RowsLe w.n (sRow w.S) (sRow w.S) ∧ false = false ∧ Q)))))))))))))))) (Cond b False True)) := by kernel_rfl
theorem col_vc (w : SL) (Z : Nat → List UInt8) (b : Bool) (Q : AV → Prop) : (kb [] [(3004, 12, s17a w Z (0, 0), e17a w Z), (7004, 13, s17b w Z 0, e17b b)] 17 [.fslice w.n 1 (sRow w.S), .fslice w.m 1 (sRow w.T)] Q) = (LoopAt PP II false (loopOf II (17 : Nat) (3004 : Nat)) (12 : Nat) (s17a w Z ((0 : Int), (0 : Nat))) (e17a w Z) ∧ EqN (SL.m w) (SL.m w) (RowsLe (SL.m w) (sRow (SL.T w)) (sRow (SL.T w)) ∧ EqN (SL.n w) (SL.n w) (RowsLe (SL.n w) (sRow (SL.S w)) (sRow (SL.S w)) ∧ false = false ∧ LoopAt PP II false (loopOf II (17 : Nat) (7004 : Nat)) (13 : Nat) (s17b w Z (0 : Int)) (e17b b) ∧ EqN (SL.m w) (SL.m w) (RowsLe (SL.m w) (sRow Z) (sRow Z) ∧ EqN (SL.m w) (SL.m w) (RowsLe (SL.m w) (sRow (SL.T w)) (sRow (SL.T w)) ∧ EqN (SL.m w) (SL.m w) (EqN (SL.n w) (SL.n w) (RowsLe (SL.n w) (sRow (SL.S w)) (sRow (SL.S w)) ∧ false = false ∧ Cond b (Q (AV.bool true)) (Q (AV.bool false))))))))) := by
 kernel_rfl
end Go.Sx
end
section
namespace Go.Sx
def mkLow (c d : Int) : Int := match decide (pickF d 4 = 3) with | true => pickF c 2199023255552 | false => pickF c 40
def mkFact (a b c d : Int) : Fact where
  t := pickF a 30
  s := pickF (Int.tdiv a 30) 4
  v := pickF b 2
  w := pickF (Int.tdiv b 2) 3
  o := 2 * pickF b 2 + pickF (Int.tdiv b 3000) 2
  p := pickF (Int.tdiv b 6) 5 - 1
  d := Int.tdiv (pickF a 30) 10
  l := mkLow c d
  h := mkLow c d + pickF (Int.tdiv d 4) 3 * pickF (Int.tdiv d 12) 30
  b := pickF (Int.tdiv b 30) 100
def ltF (x f : Fact) : Bool := decide (x.t < f.t) || (decide (x.t = f.t) && decide (x.s < f.s))
def atF (x f : Fact) : Bool := decide (x.t = f.t) && decide (x.s = f.s)
def posL : List Fact → Fact → Nat
  | [], _ => 0
  | x :: l, f => match ltF x f with | true => posL l f + 1 | false => 0
def insL : List Fact → Fact → List Fact
  | [], f => [f]
  | x :: l, f => match ltF x f with
    | true => x :: insL l f
    | false => match atF x f with | true => x :: l | false => f :: x :: l
def getL (l : List Fact) (i : Nat) : Fact := l.getD i zeroFact
theorem posL_le : ∀ (l : List Fact) (f : Fact), posL l f ≤ l.length
  | [], _ => Nat.le_refl _
  | x :: l, f => by
    unfold posL
    have := posL_le l f
    split <;> simp only [List.length_cons] <;> omega
theorem posL_lt : ∀ (l : List Fact) (f : Fact) (k : Nat), k < posL l f → ltF (getL l k) f = true
  | [], _, _, h => absurd h (Nat.not_lt_zero _)
  | x :: l, f, k, h => by
    unfold posL at h
    split at h
    · rename_i e
      cases k with
      | zero => exact e
      | succ k => exact posL_lt l f k (by omega)
    · omega
theorem posL_at : ∀ (l : List Fact) (f : Fact), posL l f < l.length → ltF (getL l (posL l f)) f = false
  | [], _, h => absurd h (Nat.not_lt_zero _)
  | x :: l, f, h => by
    unfold posL at h ⊢
    split
    · rename_i e
      rw [e] at h
      simp only [List.length_cons] at h
      exact posL_at l f (by omega)
    · rename_i e; exact e
theorem insL_eq : ∀ (l : List Fact) (f : Fact), insL l f = match Nat.blt (posL l f) l.length && atF (getL l (posL l f)) f with
    | true => l
    | false => l.take (posL l f) ++ f :: l.drop (posL l f)
  | [], f => rfl
  | x :: l, f => by
    have ih := insL_eq l f
    unfold insL posL
    cases e : ltF x f with
    | true =>
      simp only
      rw [ih]
      have : (Nat.blt (posL l f + 1) (x :: l).length) = Nat.blt (posL l f) l.length := by
        rw [Bool.eq_iff_iff]; simp only [Nat.blt_eq, List.length_cons]; omega
      have g : getL (x :: l) (posL l f + 1) = getL l (posL l f) := rfl
      rw [this, g]
      split <;> simp
    | false =>
      simp only
      have : Nat.blt 0 (x :: l).length = true := by rw [Nat.blt_eq]; simp
      have g : getL (x :: l) 0 = x := rfl
      rw [this, g, Bool.true_and]
      split <;> simp
theorem insL_get {l : List Fact} {f : Fact} (h : (Nat.blt (posL l f) l.length && atF (getL l (posL l f)) f) = false) (i : Nat) : getL (insL l f) i = if i < posL l f then getL l i else if i = posL l f then f else getL l (i - 1) := by
  rw [insL_eq, h]
  have hp := posL_le l f
  simp only [getL, List.getD_eq_getElem?_getD]
  have ht : (l.take (posL l f)).length = posL l f := by simp; omega
  by_cases h1 : i < posL l f
  · rw [if_pos h1, List.getElem?_append_left (by omega), List.getElem?_take, if_pos h1]
  · rw [if_neg h1, List.getElem?_append_right (by omega), ht]
    by_cases h2 : i = posL l f
    · rw [if_pos h2, h2, Nat.sub_self]; rfl
    · rw [if_neg h2]
      have : i - posL l f = (i - 1 - posL l f) + 1 := by omega
      rw [this, List.getElem?_cons_succ, List.getElem?_drop]
      congr 2; omega
theorem insL_len {l : List Fact} {f : Fact} (h : (Nat.blt (posL l f) l.length && atF (getL l (posL l f)) f) = false) : (insL l f).length = l.length + 1 := by
  rw [insL_eq, h]
  have hp := posL_le l f
  simp only [List.length_append, List.length_take, List.length_cons, List.length_drop]; omega
def madeL (X : Nat → Nat → Int) : Nat → List Fact
  | 0 => []
  | i + 1 => insL (madeL X i) (mkFact (X i 0) (X i 1) (X i 2) (X i 3))
theorem insL_le (l : List Fact) (f : Fact) : (insL l f).length ≤ l.length + 1 := by
  cases h : (Nat.blt (posL l f) l.length && atF (getL l (posL l f)) f) with
  | true => rw [insL_eq, h]; simp
  | false => rw [insL_len h]; exact Nat.le_refl _
theorem madeL_len (X : Nat → Nat → Int) : ∀ i, (madeL X i).length ≤ i
  | 0 => Nat.le_refl _
  | i + 1 => by have := insL_le (madeL X i) (mkFact (X i 0) (X i 1) (X i 2) (X i 3)); have := madeL_len X i; unfold madeL; omega
def small (x : Fact) : Prop := (0 ≤ x.t ∧ x.t < 30) ∧ (0 ≤ x.s ∧ x.s < 4) ∧ (0 ≤ x.v ∧ x.v < 2) ∧ (0 ≤ x.w ∧ x.w < 3) ∧ (0 ≤ x.o ∧ x.o < 4) ∧ (-1 ≤ x.p ∧ x.p < 4) ∧ x.d = Int.tdiv x.t 10 ∧ 0 ≤ x.l ∧ x.l ≤ x.h ∧ x.h < 2199023255552 + 60 ∧ (0 ≤ x.b ∧ x.b < 100)
theorem mkLow_lt (c d : Int) : 0 ≤ mkLow c d ∧ mkLow c d < 2199023255552 := by
  unfold mkLow
  split
  · exact pickF_lt (by omega)
  · have := pickF_lt (c := c) (n := 40) (by omega); omega
theorem mul_small {x y : Int} (h1 : 0 ≤ x) (h2 : x < 3) (h3 : 0 ≤ y) (h4 : y < 30) : 0 ≤ x * y ∧ x * y ≤ 58 := by
  have : x = 0 ∨ x = 1 ∨ x = 2 := by omega
  rcases this with rfl | rfl | rfl <;> omega
theorem mkFact_small (a b c d : Int) : small (mkFact a b c d) := by
  have h1 := pickF_lt (c := a) (n := 30) (by omega)
  have h2 := pickF_lt (c := Int.tdiv a 30) (n := 4) (by omega)
  have h3 := pickF_lt (c := b) (n := 2) (by omega)
  have h4 := pickF_lt (c := Int.tdiv b 2) (n := 3) (by omega)
  have h5 := pickF_lt (c := Int.tdiv b 3000) (n := 2) (by omega)
  have h6 := pickF_lt (c := Int.tdiv b 6) (n := 5) (by omega)
  have h7 := pickF_lt (c := Int.tdiv b 30) (n := 100) (by omega)
  have h8 := mkLow_lt c d
  have h9 := pickF_lt (c := Int.tdiv d 4) (n := 3) (by omega)
  have h10 := pickF_lt (c := Int.tdiv d 12) (n := 30) (by omega)
  have h11 := mul_small h9.1 h9.2 h10.1 h10.2
  simp only [small, mkFact]
  generalize pickF (Int.tdiv d 4) 3 * pickF (Int.tdiv d 12) 30 = m at *
  refine ⟨h1, h2, h3, h4, ?_, ?_, trivial, h8.1, ?_, ?_, h7⟩ <;> omega
theorem insL_mem {l : List Fact} {f y : Fact} (h : y ∈ insL l f) : y = f ∨ y ∈ l := by
  induction l with
  | nil => simp only [insL, List.mem_singleton] at h; exact .inl h
  | cons x l ih =>
    unfold insL at h
    split at h
    · rcases List.mem_cons.1 h with rfl | h
      · exact .inr List.mem_cons_self
      · rcases ih h with h | h
        · exact .inl h
        · exact .inr (List.mem_cons_of_mem _ h)
    · split at h
      · exact .inr h
      · rcases List.mem_cons.1 h with h | h
        · exact .inl h
        · exact .inr h
theorem madeL_small (X : Nat → Nat → Int) : ∀ i y, y ∈ madeL X i → small y
  | 0, y, h => by simp [madeL] at h
  | i + 1, y, h => by
    unfold madeL at h
    rcases insL_mem h with rfl | h
    · exact mkFact_small _ _ _ _
    · exact madeL_small X i y h
def ordL : List Fact → Prop
  | [] => True
  | x :: l => (∀ y ∈ l, ltF x y = true) ∧ ordL l
theorem ltF_trans {a b c : Fact} (h1 : ltF a b = true) (h2 : ltF b c = true) : ltF a c = true := by
  simp only [ltF, Bool.or_eq_true, Bool.and_eq_true, decide_eq_true_eq] at *; omega
theorem ltF_total {a b : Fact} (h1 : ltF a b = false) (h2 : atF a b = false) : ltF b a = true := by
  simp only [ltF, atF, Bool.or_eq_false_iff, Bool.and_eq_false_iff, decide_eq_false_iff_not, Bool.or_eq_true, Bool.and_eq_true, decide_eq_true_eq] at *; omega
theorem insL_ord : ∀ (l : List Fact) (f : Fact), ordL l → ordL (insL l f)
  | [], f, _ => ⟨fun _ h => (by cases h), trivial⟩
  | x :: l, f, h => by
    unfold insL
    cases e : ltF x f with
    | true =>
      refine ⟨fun y hy => ?_, insL_ord l f h.2⟩
      rcases insL_mem hy with rfl | hy
      · exact e
      · exact h.1 y hy
    | false =>
      simp only
      cases e2 : atF x f with
      | true => exact h
      | false =>
        have := ltF_total e e2
        refine ⟨fun y hy => ?_, h⟩
        rcases List.mem_cons.1 hy with rfl | hy
        · exact this
        · exact ltF_trans this (h.1 y hy)
theorem madeL_ord (X : Nat → Nat → Int) : ∀ i, ordL (madeL X i)
  | 0 => trivial
  | i + 1 => insL_ord _ _ (madeL_ord X i)
theorem ordL_get : ∀ (l : List Fact) (i : Nat), ordL l → i + 1 < l.length → ltF (getL l i) (getL l (i + 1)) = true
  | [], _, _, h => by simp at h
  | [_], _, _, h => by simp at h
  | x :: y :: l, 0, h, _ => h.1 y List.mem_cons_self
  | x :: y :: l, i + 1, h, hi => ordL_get (y :: l) i h.2 (by simp only [List.length_cons] at *; omega)
theorem getL_mem {l : List Fact} {i : Nat} (h : i < l.length) : getL l i ∈ l := by
  simp only [getL, List.getD_eq_getElem?_getD, List.getElem?_eq_getElem h, Option.getD_some]
  exact List.getElem_mem h
end Go.Sx
end
