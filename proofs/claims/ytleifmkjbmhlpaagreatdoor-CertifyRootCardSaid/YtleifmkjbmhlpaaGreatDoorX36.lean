/- CertifyRoot is proved, part 36. -/
import Derived.Test.YtleifmkjbmhlpaaGreatDoorX35
import Derived.Test.YtleifmkjbmhlpaaGreatDoorX22
import Derived.Test.YtleifmkjbmhlpaaGreatDoorX23
import Derived.Test.YtleifmkjbmhlpaaGreatDoorX28
import Derived.Test.YtleifmkjbmhlpaaGreatDoorX32
set_option linter.unusedVariables false
set_option linter.unusedSimpArgs false
set_option linter.unusedSectionVars false
section
set_option maxRecDepth 1000000
namespace Go.Sx
open Go
def proveOk (n : Nat) (F : Nat → Fact) : Bool := validsF n F && (Nat.beq n 0 || (growOk 20 n && factsOk n F && Nat.ble n 400000))
end Go.Sx
end
section
set_option maxRecDepth 1000000
namespace Go.Sx
open Go
structure RW where
  (n : Nat) (F : Nat → Fact) (m : Nat) (G : Nat → Fact) (r s : List UInt8) (e f : Int)
noncomputable def s5 (w : RW) (x : Bool × Int) : St := { t := Tr.ofList [(5, .bool true), (6, factsAV w.n w.F), (7, factsAV w.m w.G), (8, .str w.r), (9, .int .i64 w.e), (10, .str w.s), (11, .int .i64 w.f), (12, .bool x.1), (13, .int .i64 x.2)], nt := 75, H := AH.blank 14, df := [] }
noncomputable def e5 (w : RW) (b : Bool) : GE := .one (.x 0 { t := Tr.ofList [(5, .bool true), (6, factsAV w.n w.F), (7, factsAV w.m w.G), (8, .str w.r), (9, .int .i64 w.e), (10, .str w.s), (11, .int .i64 w.f), (12, .bool b)], nt := 75, H := AH.blank 14, df := [] })
theorem same_step (w : RW) (i : Int) (nb : Int → Bool) (b bN : Bool) (Q : Prop) : (kr [] [] 5 8007 14 (s5 w) (fun _ => e5 w bN) (fun x => (nb x.2, x.2 + 1)) Q (b, i)) = (Cond (decide (i < Int.ofNat w.n)) (Cond b (Asks (decide (0 ≤ i) && decide (i < Int.ofNat w.n)) (Asks (decide (0 ≤ i) && decide (i < Int.ofNat w.m)) (Asks (inR .i64 (i + 1)) (EqN w.m w.m ((RowsLe w.m (fun i => factAV (w.G i)) fun i => factAV (w.G i)) ∧ EqI w.f w.f (EqI w.e w.e (true = true ∧ EqI (i + 1) (i + 1) (EqB w.r w.r ((decide (Fact.t (w.F (Int.toNat i)) = Fact.t (w.G (Int.toNat i))) && (decide (Fact.s (w.F (Int.toNat i)) = Fact.s (w.G (Int.toNat i))) && (decide (Fact.v (w.F (Int.toNat i)) = Fact.v (w.G (Int.toNat i))) && (decide (Fact.w (w.F (Int.toNat i)) = Fact.w (w.G (Int.toNat i))) && (decide (Fact.o (w.F (Int.toNat i)) = Fact.o (w.G (Int.toNat i))) && (decide (Fact.p (w.F (Int.toNat i)) = Fact.p (w.G (Int.toNat
 i))) && (decide (Fact.d (w.F (Int.toNat i)) = Fact.d (w.G (Int.toNat i))) && (decide (Fact.l (w.F (Int.toNat i)) = Fact.l (w.G (Int.toNat i))) && (decide (Fact.h (w.F (Int.toNat i)) = Fact.h (w.G (Int.toNat i))) && (decide (Fact.b (w.F (Int.toNat i)) = Fact.b (w.G (Int.toNat i))) && true)))))))))) = nb i ∧ EqB w.s w.s (EqN w.n w.n ((RowsLe w.n (fun i => factAV (w.F i)) fun i => factAV (w.F i)) ∧ Q))))))))))) (EqN w.m w.m ((RowsLe w.m (fun i => factAV (w.G i)) fun i => factAV (w.G i)) ∧ EqI w.f w.f (EqI w.e w.e (true = true ∧ EqB w.r w.r (b = bN ∧ EqB w.s w.s (EqN w.n w.n ((RowsLe w.n (fun i => factAV (w.F i)) fun i => factAV (w.F i)) ∧ True)))))))) (EqN w.m w.m ((RowsLe w.m (fun i => factAV (w.G i)) fun i => factAV (w.G i)) ∧ EqI w.f w.f (EqI w.e w.e (true = true ∧ EqB w.r w.r (b = bN ∧ EqB w.s w.s (EqN w.n w.n ((RowsLe w.n (fun i => factAV (w.F i)) fun i => factAV (w.F i)) ∧
 True)))))))) := by kernel_rfl
theorem law5_vc (n : Nat) (X : Nat → Nat → Int) (m : Nat) (Y : Nat → Nat → Int) (w : RW) (b0 b : Bool) (Q : AV → Prop) : (kbody [kSane, kMade10, kRoot16, kRHashed, kRCol] (lamT PP II [(8007, 14, s5 w (b0, 0), e5 w b)]) 1000 5 [.fslice n 4 (xRow X), .fslice m 4 (xRow Y)] Hs (fun a H => Asks (Nat.ble 14 H.n) (Q a)) (fun _ _ => False)) = (Asks (hsIs (ABlk.cells [AV.fslice 5 2 opsRow] Access.ro) (ABlk.cells [AV.str [{ toBitVec := { toFin := ⟨48, Nat.mod_lt 48 (BitVec.ofNat._proof_1 8)⟩ } }], AV.str [{ toBitVec := { toFin := ⟨49, Nat.mod_lt 49 (BitVec.ofNat._proof_1 8)⟩ } }]] Access.ro) (ABlk.cells [AV.map (some 13)] Access.ro) (ABlk.map [(AV.any, AV.any), (AV.int .i64 1, AV.agg [AV.fn 317 [] []]), (AV.int .i64 2, AV.agg [AV.fn 319 [] []]), (AV.int .i64 3, AV.agg [AV.fn 321 [] []]), (AV.int .i64 4, AV.agg [AV.fn 323 [] []]), (AV.int .i64 5, AV.agg [AV.fn 324 [] []])])) (Asks (intsRows 4 n
 (xRow X)) (Asks (intsRows 4 m (xRow Y)) (Asks (isFacts (List.length (madeL (rowsX (xRow X)) (min n 40))) fun i => factAV (getL (madeL (rowsX (xRow X)) (min n 40)) i)) (Asks (rootOk (List.length (madeL (rowsX (xRow X)) (min n 40))) (factAt fun i => factAV (getL (madeL (rowsX (xRow X)) (min n 40)) i))) (Asks (isFacts (List.length (madeL (rowsX (xRow Y)) (min m 40))) fun i => factAV (getL (madeL (rowsX (xRow Y)) (min m 40)) i)) (Asks (rootOk (List.length (madeL (rowsX (xRow Y)) (min m 40))) (factAt fun i => factAV (getL (madeL (rowsX (xRow Y)) (min m 40)) i))) (LoopAt PP II false (loopOf II 5 8007) 14 (s5 w (b0, 0)) (e5 w b) ∧ EqN (List.length (madeL (rowsX (xRow Y)) (min m 40))) w.m ((RowsLe (List.length (madeL (rowsX (xRow Y)) (min m 40))) (fun i => factAV (getL (madeL (rowsX (xRow Y)) (min m 40)) i)) fun i => factAV (w.G i)) ∧ EqI (Prod.snd (rootR (List.length (madeL (rowsX (xRow Y))
 (min m 40))) (factAt fun i => factAV (getL (madeL (rowsX (xRow Y)) (min m 40)) i)))) w.f (EqI (Prod.snd (rootR (List.length (madeL (rowsX (xRow X)) (min n 40))) (factAt fun i => factAV (getL (madeL (rowsX (xRow X)) (min n 40)) i)))) w.e (true = true ∧ EqB (Prod.fst (rootR (List.length (madeL (rowsX (xRow X)) (min n 40))) (factAt fun i => factAV (getL (madeL (rowsX (xRow X)) (min n 40)) i)))) w.r (decide (Int.ofNat (List.length (madeL (rowsX (xRow X)) (min n 40))) = Int.ofNat (List.length (madeL (rowsX (xRow Y)) (min m 40)))) = b0 ∧ EqB (Prod.fst (rootR (List.length (madeL (rowsX (xRow Y)) (min m 40))) (factAt fun i => factAV (getL (madeL (rowsX (xRow Y)) (min m 40)) i)))) w.s (EqN (List.length (madeL (rowsX (xRow X)) (min n 40))) w.n ((RowsLe (List.length (madeL (rowsX (xRow X)) (min n 40))) (fun i => factAV (getL (madeL (rowsX (xRow X)) (min n 40)) i)) fun i => factAV (w.F i)) ∧ Cond
 (decide (w.e = 0)) (Cond (decide (w.f = 0)) (Cond (decide (List.beq w.r w.s = b)) (Q (AV.bool true)) (Asks (isFacts w.n fun i => factAV (w.F i)) (Asks (rootOk w.n (factAt fun i => factAV (w.F i))) (Asks (isFacts w.m fun i => factAV (w.G i)) (Asks (rootOk w.m (factAt fun i => factAV (w.G i))) (Asks (strsOk (List.length (hashedL w.n (factAt fun i => factAV (w.F i)))) (strRow (hashedL w.n (factAt fun i => factAV (w.F i))))) (Asks (strsOk (List.length (hashedL w.m (factAt fun i => factAV (w.G i)))) (strRow (hashedL w.m (factAt fun i => factAV (w.G i))))) (Q (AV.bool (colF { n := List.length (hashedL w.n (factAt fun i => factAV (w.F i))), S := strOf (strRow (hashedL w.n (factAt fun i => factAV (w.F i)))), m := List.length (hashedL w.m (factAt fun i => factAV (w.G i))), T := strOf (strRow (hashedL w.m (factAt fun i => factAV (w.G i)))) })))))))))) (Q (AV.bool false))) (Q (AV.bool
 false)))))))))))))))) := by kernel_rfl
end Go.Sx
end
section
set_option maxRecDepth 1000000
namespace Go.Sx
open Go
theorem u8_inj {a b : Nat} (ha : a < 256) (hb : b < 256) (h : UInt8.ofNat a = UInt8.ofNat b) : a = b := by
  have := congrArg UInt8.toNat h
  simpa [UInt8.toNat_ofNat', Nat.mod_eq_of_lt ha, Nat.mod_eq_of_lt hb] using this
theorem putG_succ (k z : Nat) : putG (k + 1) z = match Nat.blt z 128 with | true => [UInt8.ofNat z] | false => digN z :: putG k (z / 128) := rfl
theorem putG_free : ∀ {k z z' : Nat} {x y : List UInt8}, z < 128 ^ k → z' < 128 ^ k → 0 < k → putG k z ++ x = putG k z' ++ y → z = z' ∧ x = y
  | 0, _, _, _, _, _, _, h, _ => absurd h (Nat.lt_irrefl _)
  | k + 1, z, z', x, y, hz, hz', _, h => by
    rw [putG_succ, putG_succ] at h
    by_cases c : z < 128
    · rw [(Nat.blt_eq ..).mpr c] at h
      by_cases c' : z' < 128
      · rw [(Nat.blt_eq ..).mpr c'] at h
        simp only [List.cons_append, List.nil_append, List.cons.injEq] at h
        exact ⟨u8_inj (by omega) (by omega) h.1, h.2⟩
      · rw [bltF c'] at h
        simp only [List.cons_append, List.nil_append, List.cons.injEq] at h
        have := u8_inj (by omega) (by omega) h.1
        omega
    · rw [bltF c] at h
      by_cases c' : z' < 128
      · rw [(Nat.blt_eq ..).mpr c'] at h
        simp only [List.cons_append, List.nil_append, List.cons.injEq] at h
        have := u8_inj (by omega) (by omega) h.1
        omega
      · rw [bltF c'] at h
        simp only [List.cons_append, List.cons.injEq] at h
        have e := u8_inj (by omega) (by omega) h.1
        have d : z / 128 < 128 ^ k := by rw [Nat.div_lt_iff_lt_mul (by omega)]; rw [Nat.pow_succ] at hz; exact hz
        have d' : z' / 128 < 128 ^ k := by rw [Nat.div_lt_iff_lt_mul (by omega)]; rw [Nat.pow_succ] at hz'; exact hz'
        have hk : 0 < k := by
          cases k with
          | zero => simp at hz; omega
          | succ k => omega
        have := putG_free d d' hk h.2
        exact ⟨by omega, this.2⟩
theorem zN_inj {a b : Int} (h : zN a = zN b) : a = b := by
  unfold zN at h
  split at h <;> split at h <;> omega
theorem putF_free {a b : Int} {x y : List UInt8} (ha : okI a = true) (hb : okI b = true) (h : putF a ++ x = putF b ++ y) : a = b ∧ x = y := by
  simp only [okI, Bool.and_eq_true, decide_eq_true_eq] at ha hb
  have za := zN_lt ha.1 ha.2
  have zb := zN_lt hb.1 hb.2
  have := putG_free (k := 10) (by show zN a < _; omega) (by show zN b < _; omega) (by omega) h
  exact ⟨zN_inj this.1, this.2⟩
theorem intsF_inj : ∀ {l l' : List Int}, l.length = l'.length → intsB l = true → intsB l' = true → ∀ {x y : List UInt8}, intsF l ++ x = intsF l' ++ y → l = l' ∧ x = y
  | [], [], _, _, _, _, _, h => ⟨rfl, h⟩
  | [], _ :: _, h, _, _, _, _, _ => by simp at h
  | _ :: _, [], h, _, _, _, _, _ => by simp at h
  | a :: l, b :: l', hl, h1, h2, x, y, h => by
    simp only [intsB, List.all_cons, Bool.and_eq_true] at h1 h2
    have e1 : intsF (a :: l) = putF a ++ intsF l := by simp [intsF]
    have e2 : intsF (b :: l') = putF b ++ intsF l' := by simp [intsF]
    rw [e1, e2, List.append_assoc, List.append_assoc] at h
    have k := putF_free (by unfold okI; simpa using h1.1) (by unfold okI; simpa using h2.1) h
    have r := intsF_inj (by simpa using hl) h1.2 h2.2 k.2
    exact ⟨by rw [k.1, r.1], r.2⟩
def NoCol (A B : List (List UInt8)) : Prop := ∀ a ∈ A, ∀ b ∈ B, sumF a = sumF b → a = b
theorem top_in : ∀ t, hashS (topF t) ∈ nodesL t
  | .leaf x => by
    show hashS (leafF x) ∈ [intsF (factInts x), hashS (leafF x)]
    simp
  | .node l r => by
    show hashS (topF (.node l r)) ∈ nodesL l ++ nodesL r ++ [hashS (topF (.node l r))]
    simp
theorem append_tail {a b x y : List UInt8} (h : a ++ x = b ++ y) (hl : x.length = y.length) : a = b ∧ x = y := List.append_inj' h hl
theorem sum32 (s : List UInt8) : (sumF s).length = 32 := rfl
theorem beq_nil_len {r : List UInt8} (h : r.length = 32) : List.beq r [] = false := by
  cases r with
  | nil => simp at h
  | cons a l => rfl
theorem fact_inj {x y : Fact} (h : factInts x = factInts y) : x = y := by
  cases x; cases y
  simp only [factInts, List.cons.injEq, and_true] at h
  simp only [Fact.mk.injEq]
  exact h
theorem leaf_inj {x y : Fact} (hx : factOk x = true) (hy : factOk y = true) (hn : NoCol (nodesL (.leaf x)) (nodesL (.leaf y))) (h : hashS (leafF x) = hashS (leafF y)) : x = y := by
  have e : ∀ z : Fact, hashS (leafF z) = sapp [5] (intsF (covL (loI z) (hiI z))) ++ sumF (intsF (factInts z)) := fun z => rfl
  rw [e, e] at h
  have k := (append_tail h (by rw [sum32, sum32])).2
  have k2 := hn (intsF (factInts x)) (by simp [nodesL]) (intsF (factInts y)) (by simp [nodesL]) k
  have k3 := intsF_inj (l := factInts x) (l' := factInts y) rfl (factOk_ints hx) (factOk_ints hy) (x := []) (y := []) (by rw [k2])
  exact fact_inj k3.1
theorem node_hash (l r : Tree) : hashS (topF (.node l r)) = (sapp [6] (intsF (covL (joinF (topF l) (topF r)).lo (joinF (topF l) (topF r)).hi)) ++ digF (topF l)) ++ digF (topF r) := by
  have e : List.beq (joinF (topF l) (topF r)).r [] = false := beq_nil_len (digF_len (topF r))
  show hashS (joinF (topF l) (topF r)) = _
  unfold hashS
  rw [e]; rfl
theorem treeR_inj : ∀ (d n : Nat) (F G : Nat → Fact), growOk d n = true → factsOk n F = true → factsOk n G = true → NoCol (nodesL (growT d n F)) (nodesL (growT d n G)) →
    hashS (topF (growT d n F)) = hashS (topF (growT d n G)) → ∀ i, i < n → F i = G i := by
  intro d
  induction d with
  | zero =>
    intro n F G h1 _ _ _ _
    simp only [growOk, Bool.and_eq_true] at h1
    have a := Nat.le_of_ble_eq_true h1.1
    have b := Nat.le_of_ble_eq_true h1.2
    simp at b; omega
  | succ d ih =>
    intro n F G h1 hF hG hc h i hi
    simp only [growOk, Bool.and_eq_true] at h1
    have a := Nat.le_of_ble_eq_true h1.1
    have b := Nat.le_of_ble_eq_true h1.2
    have allF := List.all_eq_true.1 hF
    have allG := List.all_eq_true.1 hG
    cases hb : Nat.ble n 1 with
    | true =>
      have hn : n = 1 := by have := Nat.le_of_ble_eq_true hb; omega
      subst hn
      have eF : growT (d + 1) 1 F = .leaf (F 0) := rfl
      have eG : growT (d + 1) 1 G = .leaf (G 0) := rfl
      rw [eF, eG] at hc h
      have : i = 0 := by omega
      subst this
      exact leaf_inj (allF 0 (by simp)) (allG 0 (by simp)) hc h
    | false =>
      have hn : 2 ≤ n := Nat.lt_of_not_le fun e => by rw [Nat.ble_eq_true_of_le e] at hb; cases hb
      have hf := half_facts hn
      have hl := half_le (d := d) hn (by rw [Nat.pow_succ] at b; omega)
      have eg : ∀ H : Nat → Fact, growT (d + 1) n H = .node (growT d (halfN n) H) (growT d (n - halfN n) fun i => H (halfN n + i)) := fun H => by
        show (match Nat.ble n 1 with | true => _ | false => _) = _
        rw [hb]
      have gA : growOk d (halfN n) = true := by simp only [growOk, Bool.and_eq_true]; exact ⟨Nat.ble_eq_true_of_le hf.1, Nat.ble_eq_true_of_le hl⟩
      have gB : growOk d (n - halfN n) = true := by simp only [growOk, Bool.and_eq_true]; exact ⟨Nat.ble_eq_true_of_le (by omega), Nat.ble_eq_true_of_le (by omega)⟩
      have kA : ∀ H : Nat → Fact, factsOk n H = true → factsOk (halfN n) H = true := fun H hH => List.all_eq_true.2 fun i hi => List.all_eq_true.1 hH i (List.mem_range.2 (by have := List.mem_range.1 hi; omega))
      have kB : ∀ H : Nat → Fact, factsOk n H = true → factsOk (n - halfN n) (fun i => H (halfN n + i)) = true := fun H hH => List.all_eq_true.2 fun i hi => List.all_eq_true.1 hH _ (List.mem_range.2 (by have := List.mem_range.1 hi; omega))
      rw [eg, eg] at hc h
      rw [node_hash, node_hash] at h
      obtain ⟨k1, k2⟩ := append_tail h (by rw [digF_len, digF_len])
      obtain ⟨_, k3⟩ := append_tail k1 (by rw [digF_len, digF_len])
      rw [digF_hash, digF_hash] at k2 k3
      have subA : NoCol (nodesL (growT d (halfN n) F)) (nodesL (growT d (halfN n) G)) := fun a ha b hb => hc a (by show a ∈ nodesL _ ++ nodesL _ ++ [_]; simp [ha]) b (by show b ∈ nodesL _ ++ nodesL _ ++ [_]; simp [hb])
      have subB : NoCol (nodesL (growT d (n - halfN n) fun i => F (halfN n + i))) (nodesL (growT d (n - halfN n) fun i => G (halfN n + i))) := fun a ha b hb => hc a (by show a ∈ nodesL _ ++ nodesL _ ++ [_]; simp [ha]) b (by show b ∈ nodesL _ ++ nodesL _ ++ [_]; simp [hb])
      have uA := ih _ F G gA (kA F hF) (kA G hG) subA (subA _ (top_in _) _ (top_in _) k3)
      have uB := ih _ _ _ gB (kB F hF) (kB G hG) subB (subB _ (top_in _) _ (top_in _) k2)
      by_cases c : i < halfN n
      · exact uA i c
      · have := uB (i - halfN n) (by omega)
        have e : halfN n + (i - halfN n) = i := by omega
        simp only [e] at this
        exact this
theorem topS_inj {n m : Int} {x y : List UInt8} (hn : okI n = true) (hm : okI m = true) (h : topS n x = topS m y) : n = m ∧ x = y := by
  have e : ∀ (k : Int) (z : List UInt8), topS k z = 7 :: (putF k ++ z) := fun k z => by
    show ([7] ++ intsF [k]) ++ z = _
    simp [intsF]
  rw [e, e] at h
  simp only [List.cons.injEq, true_and] at h
  exact putF_free hn hm h
def topOf (n : Nat) (F : Nat → Fact) : List UInt8 := bif Nat.beq n 0 then topS 0 [] else topS n (digF (topF (growT 20 n F)))
theorem topOf_in (n : Nat) (F : Nat → Fact) : topOf n F ∈ hashedL n F := by
  unfold topOf hashedL
  cases Nat.beq n 0 <;> simp
theorem rootR_top {n : Nat} {F : Nat → Fact} (h : validsF n F = true) : rootR n F = (sumF (topOf n F), 0) := by
  unfold rootR topOf
  rw [h, cond_true]
  cases Nat.beq n 0 <;> rfl
theorem roots_inj {n m : Nat} {F G : Nat → Fact} (hF : rootOk n F = true) (hG : rootOk m G = true) (hc : NoCol (hashedL n F) (hashedL m G)) (h : sumF (topOf n F) = sumF (topOf m G)) : n = m ∧ ∀ i, i < n → F i = G i := by
  have ht := hc _ (topOf_in n F) _ (topOf_in m G) h
  have hsm : ∀ {k : Nat} {H : Nat → Fact}, rootOk k H = true → k ≤ 1000000 := fun {k H} hk => by
    simp only [rootOk, Bool.or_eq_true, Bool.and_eq_true, growOk] at hk
    rcases hk with hk | hk
    · have := Nat.eq_of_beq_eq_true hk; omega
    · have := Nat.le_of_ble_eq_true hk.1.2; omega
  have on := okI_small (hsm hF)
  have om := okI_small (hsm hG)
  have o0 : okI 0 = true := rfl
  have pos : ∀ {k : Nat}, Nat.beq k 0 = false → k ≠ 0 := fun {k} hk e => by rw [e] at hk; cases hk
  unfold topOf at ht
  cases c : Nat.beq n 0 with
  | true =>
    have n0 := Nat.eq_of_beq_eq_true c
    cases c' : Nat.beq m 0 with
    | true =>
      have m0 := Nat.eq_of_beq_eq_true c'
      exact ⟨by omega, fun i hi => by omega⟩
    | false =>
      rw [c, c', cond_true, cond_false] at ht
      have := (topS_inj o0 om ht).1
      have e : Int.ofNat m = (m : Int) := rfl
      exact absurd (by omega) (pos c')
  | false =>
    cases c' : Nat.beq m 0 with
    | true =>
      rw [c, c', cond_true, cond_false] at ht
      have := (topS_inj on o0 ht).1
      have e : Int.ofNat n = (n : Int) := rfl
      exact absurd (by omega) (pos c)
    | false =>
      rw [c, c', cond_false, cond_false] at ht
      obtain ⟨q1, q2⟩ := topS_inj on om ht
      have q1 : (n : Int) = (m : Int) := q1
      have hnm : n = m := by omega
      subst hnm
      refine ⟨rfl, ?_⟩
      have gF : growOk 20 n = true ∧ factsOk n F = true := by
        simp only [rootOk, Bool.or_eq_true, Bool.and_eq_true] at hF
        rcases hF with hF | hF
        · rw [c] at hF; cases hF
        · exact hF
      have gG : growOk 20 n = true ∧ factsOk n G = true := by
        simp only [rootOk, Bool.or_eq_true, Bool.and_eq_true] at hG
        rcases hG with hG | hG
        · rw [c] at hG; cases hG
        · exact hG
      have eF : hashedL n F = nodesL (growT 20 n F) ++ [topS n (digF (topF (growT 20 n F)))] := by unfold hashedL; rw [c]; rfl
      have eG : hashedL n G = nodesL (growT 20 n G) ++ [topS n (digF (topF (growT 20 n G)))] := by unfold hashedL; rw [c]; rfl
      have sub : NoCol (nodesL (growT 20 n F)) (nodesL (growT 20 n G)) := fun a ha b hb => hc a (by rw [eF]; simp [ha]) b (by rw [eG]; simp [hb])
      rw [digF_hash, digF_hash] at q2
      exact treeR_inj 20 n F G gF.1 gF.2 gG.2 sub (sub _ (top_in _) _ (top_in _) q2)
end Go.Sx
end
section
set_option maxRecDepth 1000000
namespace Go.Sx
open Go
structure LW where
  (L : Nat) (F : Nat → Fact) (M : Nat) (p : Nat → Piece)
noncomputable def h4 (w : LW) : AH := { n := 18, t := Tr.ofList [(17, .cells [.int .i64 (Int.ofNat w.L), .fslice w.M 29 (fun j => pieceAV (w.p j))] (.ty 38))] }
noncomputable def s4 (w : LW) (i fc : Int) (b : Bool) : St := { t := Tr.ofList [(5, .bool true), (6, factsAV w.L w.F), (7, .ptr 17 0 0 0), (9, .int .i64 fc), (10, .bool b), (11, .int .i64 i)], nt := 126, H := h4 w, df := [] }
noncomputable def e4 (w : LW) (fc : Int) (b : Bool) : GE := .one (.x 0 { t := Tr.ofList [(5, .bool true), (6, factsAV w.L w.F), (7, .ptr 17 0 0 0), (9, .int .i64 fc), (10, .bool b)], nt := 126, H := h4 w, df := [] })
end Go.Sx
end
