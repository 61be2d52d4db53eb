/- CertifyRoot is proved, part 20. -/
import Derived.Test.YtleifmkjbmhlpaaGreatDoorX19
set_option linter.unusedVariables false
set_option linter.unusedSimpArgs false
set_option linter.unusedSectionVars false
section
set_option maxRecDepth 1000000
namespace Go.Sx
open Go
theorem halfN_of {n : Nat} (h : 2 ≤ n) : halfN n = 2 ^ Nat.log2 (n - 1) := by
  unfold halfN
  cases hb : Nat.ble n 1 with
  | true => have := Nat.le_of_ble_eq_true hb; omega
  | false => rfl
theorem half_facts {n : Nat} (h : 2 ≤ n) : 1 ≤ halfN n ∧ halfN n ≤ n - 1 ∧ n ≤ 2 * halfN n := by
  rw [halfN_of h]
  have h1 := Nat.log2_self_le (n := n - 1) (by omega)
  have h2 := Nat.lt_log2_self (n := n - 1)
  have h3 : 0 < 2 ^ Nat.log2 (n - 1) := Nat.two_pow_pos _
  rw [Nat.pow_succ] at h2
  omega
theorem half_le {n d : Nat} (h : 2 ≤ n) (hn : n ≤ 2 ^ d) : 2 * halfN n ≤ 2 ^ d := by
  rw [halfN_of h]
  have h0 : n - 1 ≠ 0 := by omega
  have h1 : Nat.log2 (n - 1) < d := (Nat.log2_lt h0).2 (by omega)
  have := Nat.pow_le_pow_right (n := 2) (by omega) h1
  rw [Nat.pow_succ] at this
  omega
theorem topF_ok : ∀ (d n : Nat) (F : Nat → Fact), growOk d n = true → factsOk n F = true → nodeOk (topF (growT d n F)) = true := by
  intro d
  induction d with
  | zero =>
    intro n F h1 _
    simp only [growOk, Bool.and_eq_true] at h1
    have a := Nat.le_of_ble_eq_true h1.1
    have b := Nat.le_of_ble_eq_true h1.2
    simp at b; omega
  | succ d ih =>
    intro n F h1 h2
    simp only [growOk, Bool.and_eq_true] at h1
    have a := Nat.le_of_ble_eq_true h1.1
    have b := Nat.le_of_ble_eq_true h1.2
    have hall := List.all_eq_true.1 h2
    unfold growT
    cases hb : Nat.ble n 1 with
    | true => exact leafF_ok (hall 0 (List.mem_range.2 (by omega)))
    | false =>
      have hn : 2 ≤ n := Nat.lt_of_not_le fun e => by rw [Nat.ble_eq_true_of_le e] at hb; cases hb
      have hf := half_facts hn
      have hl := half_le (d := d) hn (by rw [Nat.pow_succ] at b; omega)
      refine joinF_ok (ih _ _ ?_ ?_) (ih _ _ ?_ ?_)
      · simp only [growOk, Bool.and_eq_true]; exact ⟨Nat.ble_eq_true_of_le hf.1, Nat.ble_eq_true_of_le hl⟩
      · exact List.all_eq_true.2 fun i hi => hall i (List.mem_range.2 (by have := List.mem_range.1 hi; omega))
      · simp only [growOk, Bool.and_eq_true]; exact ⟨Nat.ble_eq_true_of_le (by omega), Nat.ble_eq_true_of_le (by omega)⟩
      · exact List.all_eq_true.2 fun i hi => hall _ (List.mem_range.2 (by have := List.mem_range.1 hi; omega))
theorem cells_le (σ : Nat → Nat) (n : Node) (x : Fact) {k : AV} (h : AV.le σ k k) : AVs.le σ (cellsOf n x k) (cellsOf n x k) := ⟨⟨rfl, rfl⟩, ⟨rfl, rfl⟩, ⟨rfl, rfl⟩, ⟨rfl, rfl⟩, ⟨rfl, rfl⟩, ⟨rfl, rfl⟩, ⟨rfl, rfl⟩, ⟨rfl, rfl⟩, ⟨rfl, rfl⟩, ⟨rfl, rfl⟩, ⟨rfl, rfl⟩, ⟨rfl, rfl⟩, ⟨rfl, rfl⟩, ⟨rfl, rfl⟩, ⟨rfl, rfl⟩, ⟨rfl, rfl⟩, rfl, rfl, ⟨rfl, rfl⟩, ⟨rfl, rfl⟩, ⟨rfl, rfl⟩, ⟨rfl, rfl⟩, ⟨rfl, rfl⟩, ⟨rfl, rfl⟩, ⟨rfl, rfl⟩, ⟨rfl, rfl⟩, ⟨rfl, rfl⟩, ⟨rfl, rfl⟩, h, trivial⟩
theorem kids_le (σ : Nat → Nat) : ∀ t, AV.le σ (kidsF t) (kidsF t)
  | .leaf _ => trivial
  | .node l r => by
    refine ⟨rfl, rfl, fun i hi => ?_⟩
    match i, hi with
    | 0, _ => exact ⟨⟨cells_le σ _ _ (kids_le σ l), rfl⟩, trivial⟩
    | 1, _ => exact ⟨⟨cells_le σ _ _ (kids_le σ r), rfl⟩, trivial⟩
    | k + 2, hk => omega
theorem tree_le (σ : Nat → Nat) (t : Tree) : AV.le σ (treeAV t) (treeAV t) := ⟨cells_le σ _ _ (kids_le σ t), rfl⟩
theorem factRefl (F : Nat → Fact) (k m : Nat) : (decide (m = m) && true && List.all (List.range.loop m []) fun i => decide (Fact.t (F (k + i)) = Fact.t (F (k + i))) && (decide (Fact.s (F (k + i)) = Fact.s (F (k + i))) && (decide (Fact.v (F (k + i)) = Fact.v (F (k + i))) && (decide (Fact.w (F (k + i)) = Fact.w (F (k + i))) && (decide (Fact.o (F (k + i)) = Fact.o (F (k + i))) && (decide (Fact.p (F (k + i)) = Fact.p (F (k + i))) && (decide (Fact.d (F (k + i)) = Fact.d (F (k + i))) && (decide (Fact.l (F (k + i)) = Fact.l (F (k + i))) && (decide (Fact.h (F (k + i)) = Fact.h (F (k + i))) && (decide (Fact.b (F (k + i)) = Fact.b (F (k + i))) && true)))))))))) = true := by
  simp only [decide_true, Bool.and_self, Bool.true_and, List.all_eq_true, implies_true]
theorem grows_succ {d : Nat} (hd : d ≤ 19) (ih : Grows d) : Grows (d + 1) := by
  intro n F h1 h2
  have h1' := h1
  simp only [growOk, Bool.and_eq_true] at h1
  have a := Nat.le_of_ble_eq_true h1.1
  have b := Nat.le_of_ble_eq_true h1.2
  have hall := List.all_eq_true.1 h2
  have hd' : 2 ^ d ≤ 2 ^ 19 := Nat.pow_le_pow_right (by omega) hd
  have hn' : n ≤ 2 ^ d := by rw [Nat.pow_succ] at b; omega
  have e0 : Int.ofNat n = (n : Int) := rfl
  refine of_kh (ks := [kLeaf, kHalf, kGrowB d ih, kJoin]) (T := []) (fun σ => tree_le σ _) ?_
  rw [grow_vc d n F ih]
  refine Cond.mk (fun h => ?_) fun h => ?_
  · simp only [decide_eq_true_eq] at h
    have hn : n = 1 := by omega
    subst hn
    refine Asks.mk (decide_eq_true (by decide)) (Asks.mk (hall 0 (by simp)) (Asks.mk (decide_eq_true (by decide)) (Asks.mk ?_ rfl)))
    simp only [decide_true, Bool.and_self]
  · simp only [decide_eq_false_iff_not] at h
    have hn : 2 ≤ n := by omega
    have hf := half_facts hn
    have hl := half_le hn hn'
    have eh : Int.toNat (Int.ofNat n) = n := rfl
    have ea : Int.toNat (Int.ofNat (halfN n) - (0 : Int)) = halfN n := by
      have : Int.ofNat (halfN n) = ((halfN n : Nat) : Int) := rfl
      omega
    have eb : Int.toNat (Int.ofNat n - Int.ofNat (halfN n)) = n - halfN n := by
      have : Int.ofNat (halfN n) = ((halfN n : Nat) : Int) := rfl
      omega
    have ez : Int.toNat (Int.ofNat (halfN n)) = halfN n := rfl
    have zf : (fun i => factAV (F (0 + i))) = fun i => factAV (F i) := by funext i; rw [Nat.zero_add]
    rw [eh, ea, eb, ez]
    have fA : factAt (fun i => factAV (F i)) = F := rfl
    have fB : factAt (fun i => factAV (F (halfN n + i))) = fun i => F (halfN n + i) := rfl
    rw [zf, fA, fB]
    have e1 : Int.ofNat (halfN n) = ((halfN n : Nat) : Int) := rfl
    have gA : growOk d (halfN n) = true := by simp only [growOk, Bool.and_eq_true]; exact ⟨Nat.ble_eq_true_of_le hf.1, Nat.ble_eq_true_of_le hl⟩
    have gB : growOk d (n - halfN n) = true := by simp only [growOk, Bool.and_eq_true]; exact ⟨Nat.ble_eq_true_of_le (by omega), Nat.ble_eq_true_of_le (by omega)⟩
    have kA : factsOk (halfN n) F = true := List.all_eq_true.2 fun i hi => hall i (List.mem_range.2 (by have := List.mem_range.1 hi; omega))
    have kB : factsOk (n - halfN n) (fun i => F (halfN n + i)) = true := List.all_eq_true.2 fun i hi => hall _ (List.mem_range.2 (by have := List.mem_range.1 hi; omega))
    have hb : Nat.ble n 1 = false := by
      cases hb : Nat.ble n 1 with
      | true => have := Nat.le_of_ble_eq_true hb; omega
      | false => rfl
    have eg : growT (d + 1) n F = .node (growT d (halfN n) F) (growT d (n - halfN n) fun i => F (halfN n + i)) := by
      show (match Nat.ble n 1 with | true => _ | false => _) = _
      rw [hb]
    have b3 : (decide (0 ≤ Int.ofNat (halfN n)) && decide (Int.ofNat (halfN n) ≤ Int.ofNat n) && decide (Int.ofNat n ≤ Int.ofNat n)) = true := by
      simp only [Bool.and_eq_true, decide_eq_true_eq]; omega
    refine Asks.mk (by simp only [Bool.and_eq_true, decide_eq_true_eq]; omega) (Asks.mk (by simp only [Bool.and_eq_true, decide_eq_true_eq]; omega) (Asks.mk (isFacts_facts _ _) (Asks.mk gA (Asks.mk kA (Asks.mk b3 (Asks.mk b3 (Asks.mk (factRefl F _ _) (Asks.mk (isFacts_facts _ fun i => F (halfN n + i)) (Asks.mk gB (Asks.mk kB (Asks.mk ?_ ?_)))))))))))
    · show (nodeOk (topF (growT d (halfN n) F)) && nodeOk (topF (growT d (n - halfN n) fun i => F (halfN n + i)))) = true
      rw [topF_ok d _ _ gA kA, topF_ok d _ _ gB kB]; rfl
    · rw [eg]
      clear eg hb kB kA gB gA b3 e1 ez eb ea eh h
      kernel_rfl
theorem grows_zero : Grows 0 := by
  intro n F h1 _
  simp only [growOk, Bool.and_eq_true] at h1
  have a := Nat.le_of_ble_eq_true h1.1
  have b := Nat.le_of_ble_eq_true h1.2
  simp at b; omega
theorem grows_all : ∀ d, d ≤ 20 → Grows d
  | 0, _ => grows_zero
  | d + 1, h => grows_succ (by omega) (grows_all d (by omega))
noncomputable def kGrow : Known PP II := kGrowB 20 (grows_all 20 (by omega))
end Go.Sx
end
section
set_option maxRecDepth 1000000
namespace Go.Sx
open Go
def RTrees (d : Nat) : Prop := ∀ n F, growOk d n = true → factsOk n F = true → CallGives PP II 47 [factsAV n F] (AH.blank 12) (.ret (.agg (nodeAV (topF (growT d n F)))) (AH.blank 12))
noncomputable def kRTreeB (d : Nat) (ih : RTrees d) : Known PP II := Known.pure 47
  (fun X args kn => match args with
    | [.fslice n 10 f] => X.assert (isFacts n f) (X.assert (growOk d n) (X.assert (factsOk n (factAt f)) (kn (.agg (nodeAV (topF (growT d n (factAt f))))))))
    | _ => X.fail)
  fun X sem hX args kn h => by
    split at h
    · rename_i n f
      obtain ⟨e1, k1⟩ := hX.assert _ _ h
      obtain ⟨e2, k2⟩ := hX.assert _ _ k1
      obtain ⟨e3, k3⟩ := hX.assert _ _ k2
      exact ⟨_, k3, fun _ => rfl, fun _ => rfl, (ih n (factAt f) e2 e3).argsLe ⟨isFacts_ok e1, trivial⟩⟩
    · exact absurd h hX.fail
theorem tree_vc (d n : Nat) (F : Nat → Fact) (ih : RTrees d) (Q : AV → Prop) : (kb [kRHalf, kRTreeB d ih, kROf, kREnc, kRSum, kRBoth, kRDig] [] 47 [factsAV n F] Q) = (let zz1 := (topF (growT d (Int.toNat (Int.ofNat n - Int.ofNat (halfN (Int.toNat (Int.ofNat n))))) (factAt fun i => factAV (F (Int.toNat (Int.ofNat (halfN (Int.toNat (Int.ofNat n)))) + i))))); let zz2 := (topF (growT d (Int.toNat (Int.ofNat (halfN (Int.toNat (Int.ofNat n))) - 0)) (factAt fun i => factAV (F (0 + i))))); let zz3 := (decide (Node.lo zz1 0 = Node.lo zz1 0) && (decide (Node.lo zz1 1 = Node.lo zz1 1) && (decide (Node.lo zz1 2 = Node.lo zz1 2) && (decide (Node.lo zz1 3 = Node.lo zz1 3) && (decide (Node.lo zz1 4 = Node.lo zz1 4) && (decide (Node.lo zz1 5 = Node.lo zz1 5) && (decide (Node.lo zz1 6 = Node.lo zz1 6) && (decide (Node.lo zz1 7 = Node.lo zz1 7) && (decide (Node.hi zz1 0 = Node.hi zz1 0) && (decide (Node.hi
 zz1 1 = Node.hi zz1 1) && (decide (Node.hi zz1 2 = Node.hi zz1 2) && (decide (Node.hi zz1 3 = Node.hi zz1 3) && (decide (Node.hi zz1 4 = Node.hi zz1 4) && (decide (Node.hi zz1 5 = Node.hi zz1 5) && (decide (Node.hi zz1 6 = Node.hi zz1 6) && (decide (Node.hi zz1 7 = Node.hi zz1 7) && (decide (Node.l zz1 = Node.l zz1) && (decide (Node.r zz1 = Node.r zz1) && true)))))))))))))))))); (Cond (decide (Int.ofNat n = 1)) (Asks (decide (0 < Int.ofNat n)) (Asks (decide (0 < Int.ofNat n)) (Asks (decide ((F 0).t = (F 0).t) && (decide ((F 0).s = (F 0).s) && (decide ((F 0).v = (F 0).v) && (decide ((F 0).w = (F 0).w) && (decide ((F 0).o = (F 0).o) && (decide ((F 0).p = (F 0).p) && (decide ((F 0).d = (F 0).d) && (decide ((F 0).l = (F 0).l) && (decide ((F 0).h = (F 0).h) && (decide ((F 0).b = (F 0).b) && true)))))))))) (Asks (factOk (F 0)) (Asks (decide (List.length (intsF [(F 0).t, (F 0).s, (F 0).v, (F
 0).w, (F 0).o, (F 0).p, (F 0).d, (F 0).l, (F 0).h, (F 0).b]) ≤ 900000)) (Q (AV.agg [AV.int .i64 (loI (F 0) 0), AV.int .i64 (loI (F 0) 1), AV.int .i64 (loI (F 0) 2), AV.int .i64 (loI (F 0) 3), AV.int .i64 (loI (F 0) 4), AV.int .i64 (loI (F 0) 5), AV.int .i64 (loI (F 0) 6), AV.int .i64 (loI (F 0) 7), AV.int .i64 (hiI (F 0) 0), AV.int .i64 (hiI (F 0) 1), AV.int .i64 (hiI (F 0) 2), AV.int .i64 (hiI (F 0) 3), AV.int .i64 (hiI (F 0) 4), AV.int .i64 (hiI (F 0) 5), AV.int .i64 (hiI (F 0) 6), AV.int .i64 (hiI (F 0) 7), AV.str (sumF (intsF [(F 0).t, (F 0).s, (F 0).v, (F 0).w, (F 0).o, (F 0).p, (F 0).d, (F 0).l, (F 0).h, (F 0).b])), AV.str []]))))))) (Asks (decide (0 ≤ Int.ofNat n) && decide (Int.ofNat n ≤ 1000000)) (Asks (decide (0 ≤ Int.ofNat (halfN (Int.toNat (Int.ofNat n)))) && decide (Int.ofNat (halfN (Int.toNat (Int.ofNat n))) ≤ Int.ofNat n)) (Asks (isFacts (Int.toNat (Int.ofNat (halfN
 (Int.toNat (Int.ofNat n))) - 0)) fun i => factAV (F (0 + i))) (Asks (growOk d (Int.toNat (Int.ofNat (halfN (Int.toNat (Int.ofNat n))) - 0))) (Asks (factsOk (Int.toNat (Int.ofNat (halfN (Int.toNat (Int.ofNat n))) - 0)) (factAt fun i => factAV (F (0 + i)))) (Asks (decide (0 ≤ Int.ofNat (halfN (Int.toNat (Int.ofNat n)))) && decide (Int.ofNat (halfN (Int.toNat (Int.ofNat n))) ≤ Int.ofNat n) && decide (Int.ofNat n ≤ Int.ofNat n)) (Asks (isFacts (Int.toNat (Int.ofNat n - Int.ofNat (halfN (Int.toNat (Int.ofNat n))))) fun i => factAV (F (Int.toNat (Int.ofNat (halfN (Int.toNat (Int.ofNat n)))) + i))) (Asks (growOk d (Int.toNat (Int.ofNat n - Int.ofNat (halfN (Int.toNat (Int.ofNat n)))))) (Asks (factsOk (Int.toNat (Int.ofNat n - Int.ofNat (halfN (Int.toNat (Int.ofNat n))))) (factAt fun i => factAV (F (Int.toNat (Int.ofNat (halfN (Int.toNat (Int.ofNat n)))) + i)))) (Asks (decide (Node.lo zz2 0 =
 Node.lo zz2 0) && (decide (Node.lo zz2 1 = Node.lo zz2 1) && (decide (Node.lo zz2 2 = Node.lo zz2 2) && (decide (Node.lo zz2 3 = Node.lo zz2 3) && (decide (Node.lo zz2 4 = Node.lo zz2 4) && (decide (Node.lo zz2 5 = Node.lo zz2 5) && (decide (Node.lo zz2 6 = Node.lo zz2 6) && (decide (Node.lo zz2 7 = Node.lo zz2 7) && (decide (Node.hi zz2 0 = Node.hi zz2 0) && (decide (Node.hi zz2 1 = Node.hi zz2 1) && (decide (Node.hi zz2 2 = Node.hi zz2 2) && (decide (Node.hi zz2 3 = Node.hi zz2 3) && (decide (Node.hi zz2 4 = Node.hi zz2 4) && (decide (Node.hi zz2 5 = Node.hi zz2 5) && (decide (Node.hi zz2 6 = Node.hi zz2 6) && (decide (Node.hi zz2 7 = Node.hi zz2 7) && (decide (Node.l zz2 = Node.l zz2) && (decide (Node.r zz2 = Node.r zz2) && true)))))))))))))))))) (Asks (nodeOk { lo := fun j => if h : j = 0 then Node.lo zz2 0 else if h : j = 1 then Node.lo zz2 1 else if h : j = 2 then Node.lo zz2 2 else if h : j = 3 then Node.lo zz2 3 else if h : j = 4 then Node.lo zz2 4 else if h : j = 5 then Node.lo zz2 5 else if h : j = 6 then Node.lo zz2 6 else if h : j = 7 then Node.lo zz2 7 else 0, hi := fun j => if h : j = 0 then Node.hi zz2 0 else if h : j = 1 then Node.hi zz2 1 else if h : j = 2 then Node.hi zz2 2 else if h : j = 3 then Node.hi zz2 3 else if h : j = 4 then Node.hi zz2 4 else if h : j = 5 then Node.hi zz2 5 else if h : j = 6 then Node.hi zz2 6 else if h : j = 7 then Node.hi zz2 7 else 0, l := Node.l zz2, r := Node.r zz2 })
 (Asks zz3 (Asks zz3 (Asks (nodeOk { lo := fun j => if h : j = 0 then Node.lo zz1 0 else if h : j = 1 then Node.lo zz1 1 else if h : j = 2 then Node.lo zz1 2 else if h : j = 3 then Node.lo zz1 3 else if h : j = 4 then Node.lo zz1 4 else if h : j = 5 then Node.lo zz1 5 else if h : j = 6 then Node.lo zz1 6 else if h : j = 7 then Node.lo zz1 7 else 0, hi := fun j => if h : j = 0 then Node.hi zz1 0 else if h : j = 1 then Node.hi zz1 1 else if h : j = 2 then Node.hi zz1 2 else if h : j = 3 then Node.hi zz1 3 else if h : j = 4 then Node.hi zz1 4 else if h : j = 5 then Node.hi zz1 5 else if h : j = 6 then Node.hi zz1 6 else if h : j = 7 then Node.hi zz1 7 else 0, l := Node.l zz1, r := Node.r zz1 }) (Q (AV.agg [AV.int .i64 (minI (Node.lo zz2 0) (Node.lo zz1 0)), AV.int .i64 (minI (Node.lo zz2 1) (Node.lo zz1 1)), AV.int .i64 (minI (Node.lo zz2 2) (Node.lo zz1 2)), AV.int .i64 (minI (Node.lo zz2
 3) (Node.lo zz1 3)), AV.int .i64 (minI (Node.lo zz2 4) (Node.lo zz1 4)), AV.int .i64 (minI (Node.lo zz2 5) (Node.lo zz1 5)), AV.int .i64 (minI (Node.lo zz2 6) (Node.lo zz1 6)), AV.int .i64 (minI (Node.lo zz2 7) (Node.lo zz1 7)), AV.int .i64 (maxI (Node.hi zz2 0) (Node.hi zz1 0)), AV.int .i64 (maxI (Node.hi zz2 1) (Node.hi zz1 1)), AV.int .i64 (maxI (Node.hi zz2 2) (Node.hi zz1 2)), AV.int .i64 (maxI (Node.hi zz2 3) (Node.hi zz1 3)), AV.int .i64 (maxI (Node.hi zz2 4) (Node.hi zz1 4)), AV.int .i64 (maxI (Node.hi zz2 5) (Node.hi zz1 5)), AV.int .i64 (maxI (Node.hi zz2 6) (Node.hi zz1 6)), AV.int .i64 (maxI (Node.hi zz2 7) (Node.hi zz1 7)), AV.str (digF { lo := fun j => if h : j = 0 then Node.lo zz2 0 else if h : j = 1 then Node.lo zz2 1 else if h : j = 2 then Node.lo zz2 2 else if h : j = 3 then Node.lo zz2 3 else if h : j = 4 then Node.lo zz2 4 else if h : j = 5 then Node.lo zz2 5 else if h : j = 6 then Node.lo zz2 6 else if h : j = 7 then Node.lo zz2 7 else 0, hi := fun j => if h : j = 0 then Node.hi zz2 0 else if h : j = 1 then Node.hi zz2 1 else if h : j = 2 then Node.hi zz2 2 else if h : j = 3 then Node.hi zz2 3 else if h : j = 4 then Node.hi zz2 4 else if h : j = 5 then Node.hi zz2 5 else if h : j = 6 then Node.hi zz2 6 else if h : j = 7 then Node.hi zz2 7 else 0, l := Node.l zz2, r := Node.r zz2 }),
 AV.str (digF { lo := fun j => if h : j = 0 then Node.lo zz1 0 else if h : j = 1 then Node.lo zz1 1 else if h : j = 2 then Node.lo zz1 2 else if h : j = 3 then Node.lo zz1 3 else if h : j = 4 then Node.lo zz1 4 else if h : j = 5 then Node.lo zz1 5 else if h : j = 6 then Node.lo zz1 6 else if h : j = 7 then Node.lo zz1 7 else 0, hi := fun j => if h : j = 0 then Node.hi zz1 0 else if h : j = 1 then Node.hi zz1 1 else if h : j = 2 then Node.hi zz1 2 else if h : j = 3 then Node.hi zz1 3 else if h : j = 4 then Node.hi zz1 4 else if h : j = 5 then Node.hi zz1 5 else if h : j = 6 then Node.hi zz1 6 else if h : j = 7 then Node.hi zz1 7 else 0, l := Node.l zz1, r := Node.r zz1 })])))))))))))))))))) := by kernel_rfl
end Go.Sx
end
section
set_option maxRecDepth 1000000
namespace Go.Sx
open Go
theorem asks_nodeOk {x y : Node} {K : Prop} (h : nodeOk x = true) (e : nodeOk y = nodeOk x) (k : K) : Asks (nodeOk y) K := Asks.mk (e.trans h) k
theorem rtrees_succ {d : Nat} (hd : d ≤ 19) (ih : RTrees d) : RTrees (d + 1) := by
  intro n F h1 h2
  have h1' := h1
  simp only [growOk, Bool.and_eq_true] at h1
  have a := Nat.le_of_ble_eq_true h1.1
  have b := Nat.le_of_ble_eq_true h1.2
  have hall := List.all_eq_true.1 h2
  have hd' : 2 ^ d ≤ 2 ^ 19 := Nat.pow_le_pow_right (by omega) hd
  have hn' : n ≤ 2 ^ d := by rw [Nat.pow_succ] at b; omega
  have e0 : Int.ofNat n = (n : Int) := rfl
  refine of_kb (ks := [kRHalf, kRTreeB d ih, kROf, kREnc, kRSum, kRBoth, kRDig]) (T := []) (fun σ => nodeAV_le σ _) ?_
  rw [tree_vc d n F ih]
  refine Cond.mk (fun h => ?_) fun h => ?_
  · simp only [decide_eq_true_eq] at h
    have hn : n = 1 := by omega
    subst hn
    have hl := intsF_len (factInts (F 0))
    refine Asks.mk (decide_eq_true (by decide)) (Asks.mk (decide_eq_true (by decide)) (Asks.mk ?_ (Asks.mk (hall 0 (by simp)) (Asks.mk (decide_eq_true ?_) rfl))))
    · simp only [decide_true, Bool.and_self]
    · show (intsF (factInts (F 0))).length ≤ _
      have : (factInts (F 0)).length = 10 := rfl
      omega
  · simp only [decide_eq_false_iff_not] at h
    have hn : 2 ≤ n := by omega
    have hf := half_facts hn
    have hl := half_le hn hn'
    have eh : Int.toNat (Int.ofNat n) = n := rfl
    have ea : Int.toNat (Int.ofNat (halfN n) - (0 : Int)) = halfN n := by
      have : Int.ofNat (halfN n) = ((halfN n : Nat) : Int) := rfl
      omega
    have eb : Int.toNat (Int.ofNat n - Int.ofNat (halfN n)) = n - halfN n := by
      have : Int.ofNat (halfN n) = ((halfN n : Nat) : Int) := rfl
      omega
    have ez : Int.toNat (Int.ofNat (halfN n)) = halfN n := rfl
    have zf : (fun i => factAV (F (0 + i))) = fun i => factAV (F i) := by funext i; rw [Nat.zero_add]
    rw [eh, ea, eb, ez]
    have fA : factAt (fun i => factAV (F i)) = F := rfl
    have fB : factAt (fun i => factAV (F (halfN n + i))) = fun i => F (halfN n + i) := rfl
    rw [zf, fA, fB]
    have e1 : Int.ofNat (halfN n) = ((halfN n : Nat) : Int) := rfl
    have gA : growOk d (halfN n) = true := by simp only [growOk, Bool.and_eq_true]; exact ⟨Nat.ble_eq_true_of_le hf.1, Nat.ble_eq_true_of_le hl⟩
    have gB : growOk d (n - halfN n) = true := by simp only [growOk, Bool.and_eq_true]; exact ⟨Nat.ble_eq_true_of_le (by omega), Nat.ble_eq_true_of_le (by omega)⟩
    have kA : factsOk (halfN n) F = true := List.all_eq_true.2 fun i hi => hall i (List.mem_range.2 (by have := List.mem_range.1 hi; omega))
    have kB : factsOk (n - halfN n) (fun i => F (halfN n + i)) = true := List.all_eq_true.2 fun i hi => hall _ (List.mem_range.2 (by have := List.mem_range.1 hi; omega))
    have oA := topF_ok d _ _ gA kA
    have oB := topF_ok d _ _ gB kB
    have hb : Nat.ble n 1 = false := by
      cases hb : Nat.ble n 1 with
      | true => have := Nat.le_of_ble_eq_true hb; omega
      | false => rfl
    have eg : growT (d + 1) n F = .node (growT d (halfN n) F) (growT d (n - halfN n) fun i => F (halfN n + i)) := by
      show (match Nat.ble n 1 with | true => _ | false => _) = _
      rw [hb]
    have b1 : (decide (0 ≤ Int.ofNat n) && decide (Int.ofNat n ≤ 1000000)) = true := by simp only [Bool.and_eq_true, decide_eq_true_eq]; omega
    have b2 : (decide (0 ≤ Int.ofNat (halfN n)) && decide (Int.ofNat (halfN n) ≤ Int.ofNat n)) = true := by simp only [Bool.and_eq_true, decide_eq_true_eq]; omega
    have b3 : (decide (0 ≤ Int.ofNat (halfN n)) && decide (Int.ofNat (halfN n) ≤ Int.ofNat n) && decide (Int.ofNat n ≤ Int.ofNat n)) = true := by
      simp only [Bool.and_eq_true, decide_eq_true_eq]; omega
    refine Asks.mk b1 (Asks.mk b2 (Asks.mk (isFacts_facts _ _) (Asks.mk gA (Asks.mk kA (Asks.mk b3 (Asks.mk (isFacts_facts _ fun i => F (halfN n + i)) (Asks.mk gB (Asks.mk kB ?_))))))))
    rw [eg]
    generalize growT d (halfN n) F = A at *
    generalize (growT d (n - halfN n) fun i => F (halfN n + i)) = B at *
    have nA : nodeOk (topF A) = true := oA
    clear eg hb kA kB gA gB b1 b2 b3 e1 ez eb ea eh h fA fB zf
    refine Asks.mk ?_ (asks_nodeOk oA ?_ (Asks.mk ?_ (Asks.mk ?_ (asks_nodeOk oB ?_ ?_))))
    · simp only [decide_true, Bool.and_self]
    · kernel_rfl
    · simp only [decide_true, Bool.and_self]
    · simp only [decide_true, Bool.and_self]
    · kernel_rfl
    · kernel_rfl
theorem rtrees_zero : RTrees 0 := by
  intro n F h1 _
  simp only [growOk, Bool.and_eq_true] at h1
  have a := Nat.le_of_ble_eq_true h1.1
  have b := Nat.le_of_ble_eq_true h1.2
  simp at b; omega
theorem rtrees_all : ∀ d, d ≤ 20 → RTrees d
  | 0, _ => rtrees_zero
  | d + 1, h => rtrees_succ (by omega) (rtrees_all d (by omega))
noncomputable def kRTree : Known PP II := kRTreeB 20 (rtrees_all 20 (by omega))
end Go.Sx
end
section
set_option maxRecDepth 1000000
namespace Go.Sx
open Go
theorem AH.new_get (H : AH) (b : ABlk) (l : Nat) : (H.new b).get l = if l = H.n then b else H.get l := by
  simp only [AH.new, AH.get, Tr.get_set]
  by_cases h : l = H.n
  · rw [if_pos h, if_pos h]
  · rw [if_neg h, if_neg h]
theorem CallGives.fresh {P : Program} {I : Info} {f : FuncId} {args : List AV} {a : Nat → AV} {b : ABlk} (h : CallGives P I f args (AH.blank I.G) (.ret (a I.G) ((AH.blank I.G).new b))) (hargs : ∀ σ, AVs.ren σ args = args) (ha : ∀ σ n, (a n).ren σ = a (σ n)) (hb : ∀ σ, b.ren σ = b) (H : AH) :
    CallGives P I f args H (.ret (a H.n) (H.new b)) := by
  intro c ρ w vs hG hv hr
  have hGn : I.G ≤ H.n := by
    rw [← hG]
    refine Nat.le_of_not_lt fun hlt => ?_
    obtain ⟨N, hN⟩ := hr.glob H.n hlt
    rw [hr.top _ (Nat.le_refl _)] at hN; cases hN
  have hd : ∀ l, (AH.blank I.G).get l = .dead := fun l => rfl
  let σ : Nat → Nat := fun l => if l < I.G then l else H.n + (l - I.G)
  have hs : Sub I.G σ (AH.blank I.G) H :=
    { lt := fun l hl => by
        have : l < I.G := hl
        simp only [σ, if_pos this]; omega
      ge := fun l hl => by
        have : ¬ l < I.G := Nat.not_lt.2 hl
        simp only [σ, if_neg this]; rfl
      same := fun l h => absurd (hd l) h
      inj := fun l _ h => absurd (hd l) h
      glob := fun g hg => ⟨hg, by simp only [σ, if_pos hg]⟩
      low := fun l _ => hd l }
  have hn0 : (AH.blank I.G).n = I.G := rfl
  have ht : Sup σ (AH.blank I.G) (CO.ret (a I.G) ((AH.blank I.G).new b)).heap H (H.new b) :=
    { n := by show H.n + 1 = H.n + (I.G + 1 - I.G); omega
      old := fun l h => absurd (hd l) h
      new := fun l hl => by
        have hl : I.G ≤ l := hl
        have hl' : ¬ l < I.G := Nat.not_lt.2 hl
        show (H.new b).get (σ l) = (((AH.blank I.G).new b).get l).ren σ
        rw [AH.new_get, AH.new_get, hn0]
        simp only [σ, if_neg hl']
        by_cases e : l = I.G
        · subst e
          rw [if_pos (by omega), if_pos rfl, hb]
        · rw [if_neg (by omega), if_neg e, hr.low _ (by omega)]
          show _ = (ABlk.dead).ren _
          rfl
      rest := fun l hl _ => by
        rw [AH.new_get, if_neg (by omega)] }
  have := h.lift hs ht
  rw [hargs] at this
  have e : (CO.ret (a I.G) ((AH.blank I.G).new b)).into σ (H.new b) = .ret (a H.n) (H.new b) := by
    show CO.ret ((a I.G).ren σ) (H.new b) = _
    rw [ha]
    have : σ I.G = H.n := by simp only [σ, if_neg (Nat.lt_irrefl _)]; omega
    rw [this]
  rw [e] at this
  exact this c ρ w vs hG hv hr
def Known.fresh {P : Program} {I : Info} (f : FuncId) (spec : {R : Type} → RI R → List AV → ((Nat → AV) → ABlk → R) → R)
    (ok : ∀ {R : Type} (X : RI R) (sem : R → Prop), X.Ok sem → ∀ args kn, sem (spec X args kn) → ∃ a b, sem (kn a b) ∧ (∀ σ n, (a n).ren σ = a (σ n)) ∧ (∀ σ, b.ren σ = b) ∧ (∀ σ, AVs.ren σ args = args) ∧ CallGives P I f args (AH.blank I.G) (.ret (a I.G) ((AH.blank I.G).new b))) : Known P I where
  f := f
  spec X args H kn _ := frzs X 100000 args H fun args' H' => spec X args' fun a b => kn (a H'.n) (H'.new b)
  ok X sem hX args H kn kp h := by
    obtain ⟨args', H', h1, h2⟩ := frzs_ok hX _ _ _ _ h
    obtain ⟨a, b, k1, k2, k3, k4, k5⟩ := ok X sem hX _ _ h1
    exact ⟨.ret (a H'.n) (H'.new b), k1, (k5.fresh k4 k2 k3 H').fzArgs h2⟩
end Go.Sx
end
