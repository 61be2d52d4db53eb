/- CertifyRoot is proved, part 38. -/
import Derived.Test.YtleifmkjbmhlpaaGreatDoorX36
import Derived.Test.YtleifmkjbmhlpaaGreatDoorX37
import Derived.OpenShut
import Derived.ReadAgain
import Derived.ChangeStays
import Derived.ChangeSame
import Derived.Deep.Slices
import Derived.Test.YtleifmkjbmhlpaaGreatDoorX10
import Derived.Test.YtleifmkjbmhlpaaGreatDoorX06
import Derived.Test.YtleifmkjbmhlpaaGreatDoorX04
set_option linter.unusedVariables false
set_option linter.unusedSimpArgs false
set_option linter.unusedSectionVars false
section
set_option maxRecDepth 1000000
namespace Go.Sx
open Go
def factEqB (x y : Fact) : Bool := decide (x.t = y.t) && (decide (x.s = y.s) && (decide (x.v = y.v) && (decide (x.w = y.w) && (decide (x.o = y.o) && (decide (x.p = y.p) && (decide (x.d = y.d) && (decide (x.l = y.l) && (decide (x.h = y.h) && (decide (x.b = y.b) && true)))))))))
theorem factEqB_iff {x y : Fact} : factEqB x y = true ↔ x = y := by
  constructor
  · intro h
    simp only [factEqB, Bool.and_eq_true, decide_eq_true_eq, and_true] at h
    cases x; cases y
    simp only [Fact.mk.injEq]
    exact h
  · intro h
    subst h
    simp [factEqB]
def sameTo (w : RW) (k : Nat) : Bool := decide (w.n = w.m) && (List.range k).all fun j => factEqB (w.F j) (w.G j)
theorem sameTo_succ (w : RW) (k : Nat) : sameTo w (k + 1) = (sameTo w k && factEqB (w.F k) (w.G k)) := by
  unfold sameTo
  rw [List.range_succ, List.all_append, Bool.and_assoc]
  simp
theorem sameTo_false {w : RW} {k : Nat} (h : sameTo w k = false) : ∀ d, sameTo w (k + d) = false
  | 0 => h
  | d + 1 => by
    show sameTo w (k + d + 1) = false
    rw [sameTo_succ, sameTo_false h d, Bool.false_and]
theorem sameTo_iff {w : RW} : sameTo w w.n = true ↔ w.n = w.m ∧ ∀ i, i < w.n → w.F i = w.G i := by
  unfold sameTo
  rw [Bool.and_eq_true, decide_eq_true_eq, List.all_eq_true]
  constructor
  · exact fun h => ⟨h.1, fun i hi => factEqB_iff.1 (h.2 i (List.mem_range.2 hi))⟩
  · exact fun h => ⟨h.1, fun i hi => factEqB_iff.2 (h.2 i (List.mem_range.1 hi))⟩
theorem fcRows (n : Nat) (F : Nat → Fact) : RowsLe n (fun i => factAV (F i)) (fun i => factAV (F i)) := fun i _ σ => factAV_le σ (F i)
def nb5 (w : RW) (i : Int) : Bool := factEqB (w.F i.toNat) (w.G i.toNat)
theorem same_loop {w : RW} (hn : w.n ≤ 1000000) (hm : w.m ≤ 1000000) : LoopAt PP II false (loopOf II 5 8007) 14 (s5 w (decide (w.n = w.m), 0)) (e5 w (sameTo w w.n)) :=
  LoopAt.of (ι := Bool × Int) hII [] (lamT_ok PP II []) 1000 14 (fun x => ∃ k : Nat, k ≤ w.n ∧ x.2 = (k : Int) ∧ x.1 = sameTo w k) (s5 w) (fun _ => e5 w (sameTo w w.n)) (fun x => (w.n - x.2).toNat) (fun x => (nb5 w x.2, x.2 + 1)) (decide (w.n = w.m), 0) rfl
    ⟨0, Nat.zero_le _, rfl, by show _ = (_ && true); rw [Bool.and_true]⟩ fun x hx => by
    obtain ⟨b, i⟩ := x
    obtain ⟨k, hk, h1, h2⟩ := hx
    change i = (k : Int) at h1
    change b = sameTo w k at h2
    have eN : Int.ofNat w.n = (w.n : Int) := rfl
    have eM : Int.ofNat w.m = (w.m : Int) := rfl
    have out : b = sameTo w w.n → (EqN w.m w.m (RowsLe w.m (fun i => factAV (w.G i)) (fun i => factAV (w.G i)) ∧ EqI w.f w.f (EqI w.e w.e (true = true ∧ EqB w.r w.r (b = sameTo w w.n ∧ EqB w.s w.s (EqN w.n w.n (RowsLe w.n (fun i => factAV (w.F i)) (fun i => factAV (w.F i)) ∧ True))))))) := fun e =>
      EqN.mk rfl ⟨fcRows _ _, EqI.mk rfl (EqI.mk rfl ⟨rfl, EqB.mk rfl ⟨e, EqB.mk rfl (EqN.mk rfl ⟨fcRows _ _, trivial⟩)⟩⟩)⟩
    refine (same_step w i (nb5 w) b (sameTo w w.n) _).mpr (Cond.mk (fun c => Cond.mk (fun hb => ?_) fun hb => ?_) fun c => ?_)
    · simp only [decide_eq_true_eq, eN] at c
      have ni : Int.toNat i = k := by omega
      have hk' : k < w.n := by omega
      have hb' : sameTo w k = true := by rw [← h2]; exact hb
      have hnm : w.n = w.m := by
        unfold sameTo at hb'
        rw [Bool.and_eq_true, decide_eq_true_eq] at hb'
        exact hb'.1
      have nx : nb5 w i = sameTo w (k + 1) := by
        unfold nb5
        rw [sameTo_succ, hb', Bool.true_and, ni]
      refine Asks.mk (by rw [decide_eq_true (show (0 : Int) ≤ i by omega), decide_eq_true (show i < Int.ofNat w.n by omega)]; rfl) (Asks.mk (by rw [decide_eq_true (show (0 : Int) ≤ i by omega), decide_eq_true (show i < Int.ofNat w.m by omega)]; rfl) (Asks.mk (inR_small (by omega) (by omega)) (EqN.mk rfl ⟨fcRows _ _, EqI.mk rfl (EqI.mk rfl ⟨rfl, EqI.mk rfl (EqB.mk rfl ⟨rfl, EqB.mk rfl (EqN.mk rfl ⟨fcRows _ _, ⟨k + 1, hk', by show i + 1 = _; omega, nx⟩, by show ((w.n : Int) - (i + 1)).toNat < ((w.n : Int) - i).toNat; omega, rfl⟩)⟩)⟩)⟩)))
    · refine out ?_
      have hb' : sameTo w k = false := by rw [← h2]; exact hb
      have := sameTo_false hb' (w.n - k)
      rw [show k + (w.n - k) = w.n by omega] at this
      rw [h2, hb', this]
    · simp only [decide_eq_false_iff_not, eN] at c
      have : k = w.n := by omega
      exact out (by rw [h2, this])
theorem len_nodes : ∀ t : Tree, ∀ s ∈ nodesL t, s.length ≤ 1000
  | .leaf x, s, hs => by
    have q := intsF_len (factInts x)
    have e : (factInts x).length = 10 := rfl
    have c := covF_len (leafF x)
    simp only [nodesL, List.mem_cons, List.not_mem_nil, or_false] at hs
    rcases hs with rfl | rfl
    · omega
    · have : hashS (leafF x) = sapp [5] (intsF (covL (leafF x).lo (leafF x).hi)) ++ sumF (intsF (factInts x)) := rfl
      rw [this, List.length_append, sum32, sapp_len]
      show 1 + _ + 32 ≤ 1000
      omega
  | .node l r, s, hs => by
    have hs : s ∈ nodesL l ++ nodesL r ++ [hashS (topF (.node l r))] := hs
    simp only [List.mem_append, List.mem_singleton] at hs
    rcases hs with (hs | hs) | rfl
    · exact len_nodes l s hs
    · exact len_nodes r s hs
    · have c := covF_len (joinF (topF l) (topF r))
      rw [node_hash, List.length_append, List.length_append, digF_len, digF_len, sapp_len]
      show 1 + _ + 32 + 32 ≤ 1000
      omega
theorem len_top (n : Int) (s : List UInt8) (h : s.length ≤ 32) : (topS n s).length ≤ 1000 := by
  have q := intsF_len [n]
  have e : [n].length = 1 := rfl
  unfold topS
  rw [sapp_len, sapp_len]
  show 1 + _ + _ ≤ 1000
  omega
theorem len_hashed {n : Nat} {F : Nat → Fact} : ∀ s ∈ hashedL n F, s.length ≤ 1000 := by
  intro s hs
  unfold hashedL at hs
  cases c : Nat.beq n 0 with
  | true =>
    rw [c, cond_true, List.mem_singleton] at hs
    subst hs
    exact len_top 0 [] (by simp)
  | false =>
    rw [c, cond_false, List.mem_append, List.mem_singleton] at hs
    rcases hs with hs | rfl
    · exact len_nodes _ s hs
    · exact len_top _ _ (by rw [digF_len]; omega)
theorem many_hashed {n : Nat} {F : Nat → Fact} (h : rootOk n F = true) (hn : n ≤ 1000) : (hashedL n F).length ≤ 10000 := by
  unfold hashedL
  cases c : Nat.beq n 0 with
  | true => simp
  | false =>
    rw [cond_false, List.length_append, List.length_singleton]
    simp only [rootOk, Bool.or_eq_true, Bool.and_eq_true] at h
    rcases h with h | h
    · rw [c] at h; cases h
    · have := (nodesN_le 20 n F h.1).2
      show nodesN (growT 20 n F) + 1 ≤ _
      omega
theorem strs_hashed {n : Nat} {F : Nat → Fact} (h : rootOk n F = true) (hn : n ≤ 1000) : strsOk (hashedL n F).length (strRow (hashedL n F)) = true := by
  have := many_hashed h hn
  unfold strsOk
  rw [Nat.ble_eq_true_of_le (by omega), Bool.true_and]
  refine List.all_eq_true.2 fun i hi => ?_
  have hi := List.mem_range.1 hi
  refine Nat.ble_eq_true_of_le ?_
  have := len_hashed (n := n) (F := F) ((hashedL n F).getD i []) (by rw [List.getD_eq_getElem?_getD, List.getElem?_eq_getElem hi]; exact List.getElem_mem hi)
  omega
theorem beq_bytes {a b : List UInt8} : List.beq a b = true ↔ a = b := by
  show (a == b) = true ↔ _
  exact beq_iff_eq
theorem colF_of {A B : List (List UInt8)} (h : ¬ NoCol A B) : colF ⟨A.length, strOf (strRow A), B.length, strOf (strRow B)⟩ = true := by
  have h : ∃ a ∈ A, ∃ b ∈ B, sumF a = sumF b ∧ a ≠ b := by
    apply Classical.byContradiction
    intro hn
    refine h fun a ha b hb hs => ?_
    apply Classical.byContradiction
    intro hne
    exact hn ⟨a, ha, b, hb, hs, hne⟩
  obtain ⟨a, ha, b, hb, hs, hne⟩ := h
  obtain ⟨i, hi, rfl⟩ := List.getElem_of_mem ha
  obtain ⟨j, hj, rfl⟩ := List.getElem_of_mem hb
  refine anyTo_true (j := i) hi (anyTo_true (j := j) hj ?_)
  have e1 : A.getD i [] = A[i] := by rw [List.getD_eq_getElem?_getD, List.getElem?_eq_getElem hi]; rfl
  have e2 : B.getD j [] = B[j] := by rw [List.getD_eq_getElem?_getD, List.getElem?_eq_getElem hj]; rfl
  show (!List.beq (A.getD i []) (B.getD j []) && List.beq (sumF (A.getD i [])) (sumF (B.getD j []))) = true
  rw [e1, e2, hs]
  have n1 : List.beq A[i] B[j] = false := by
    cases e : List.beq A[i] B[j] with
    | false => rfl
    | true => exact absurd (beq_bytes.1 e) hne
  rw [n1, beq_bytes.2 rfl]; rfl
end Go.Sx
end
section
set_option maxRecDepth 1000000
namespace Go.Sx
open Go
theorem rootOk_of {n : Nat} {F : Nat → Fact} (h : proveOk n F = true) : rootOk n F = true ∧ validsF n F = true := by
  unfold proveOk at h
  simp only [Bool.and_eq_true, Bool.or_eq_true] at h
  refine ⟨?_, h.1⟩
  unfold rootOk
  rcases h.2 with h | h
  · rw [h]; rfl
  · rw [h.1.1, h.1.2, Bool.true_and, Bool.or_true]
theorem lists_eq {l l' : List Fact} (h1 : l.length = l'.length) (h2 : ∀ i, i < l.length → getL l i = getL l' i) : l = l' := by
  refine List.ext_getElem h1 fun i hi hi' => ?_
  have := h2 i hi
  unfold getL at this
  rw [List.getD_eq_getElem?_getD, List.getD_eq_getElem?_getD, List.getElem?_eq_getElem hi, List.getElem?_eq_getElem hi'] at this
  exact this
theorem law5_ok {n : Nat} {X : Nat → Nat → Int} {m : Nat} {Y : Nat → Nat → Int} (hX : intsRows 4 n (xRow X) = true) (hY : intsRows 4 m (xRow Y) = true) :
    CallGives PP II 5 [.fslice n 4 (xRow X), .fslice m 4 (xRow Y)] Hs (.ret (.bool true) (AH.blank 14)) := by
  have hp := made_prove (rowsX (xRow X)) (i := min n 40) (by omega)
  have hq := made_prove (rowsX (xRow Y)) (i := min m 40) (by omega)
  have hlen := madeL_len (rowsX (xRow X)) (min n 40)
  have hlen' := madeL_len (rowsX (xRow Y)) (min m 40)
  have hv := law5_vc n X m Y
  generalize madeL (rowsX (xRow X)) (min n 40) = l at *
  generalize madeL (rowsX (xRow Y)) (min m 40) = l' at *
  obtain ⟨r1, v1⟩ := rootOk_of hp
  obtain ⟨r2, v2⟩ := rootOk_of hq
  have e1 := rootR_top v1
  have e2 := rootR_top v2
  have fA : factAt (fun i => factAV (getL l i)) = getL l := rfl
  have fB : factAt (fun i => factAV (getL l' i)) = getL l' := rfl
  have loop := same_loop (w := ⟨l.length, getL l, l'.length, getL l', sumF (topOf l.length (getL l)), sumF (topOf l'.length (getL l')), 0, 0⟩) (by show l.length ≤ _; omega) (by show l'.length ≤ _; omega)
  have siff := sameTo_iff (w := ⟨l.length, getL l, l'.length, getL l', sumF (topOf l.length (getL l)), sumF (topOf l'.length (getL l')), 0, 0⟩)
  have hb0 : decide (Int.ofNat l.length = Int.ofNat l'.length) = decide (l.length = l'.length) := by
    have a : Int.ofNat l.length = (l.length : Int) := rfl
    have b : Int.ofNat l'.length = (l'.length : Int) := rfl
    by_cases h : l.length = l'.length
    · rw [decide_eq_true h, decide_eq_true (by omega)]
    · rw [decide_eq_false h, decide_eq_false (by omega)]
  generalize hs : sameTo ⟨l.length, getL l, l'.length, getL l', sumF (topOf l.length (getL l)), sumF (topOf l'.length (getL l')), 0, 0⟩ l.length = sm at *
  obtain ⟨o, h1, h2⟩ := kbody_ok hII [kSane, kMade10, kRoot16, kRHashed, kRCol] (lamT_ok PP II [(8007, 14, s5 ⟨l.length, getL l, l'.length, getL l', sumF (topOf l.length (getL l)), sumF (topOf l'.length (getL l')), 0, 0⟩ (decide (l.length = l'.length), 0), e5 ⟨l.length, getL l, l'.length, getL l', sumF (topOf l.length (getL l)), sumF (topOf l'.length (getL l')), 0, 0⟩ sm)]) 1000 5
    [.fslice n 4 (xRow X), .fslice m 4 (xRow Y)] Hs (fun a H => Asks (Nat.ble 14 H.n) (a = .bool true)) (fun _ _ => False) (by
      refine (hv ⟨l.length, getL l, l'.length, getL l', sumF (topOf l.length (getL l)), sumF (topOf l'.length (getL l')), 0, 0⟩ (decide (l.length = l'.length)) sm (fun a => a = .bool true)).mpr ?_
      rw [fA, fB, e1, e2]
      refine Asks.mk (hsIs_mk rfl rfl rfl rfl) (Asks.mk hX (Asks.mk hY (Asks.mk (isFacts_facts _ _) (Asks.mk r1 (Asks.mk (isFacts_facts _ _) (Asks.mk r2 ⟨loop, EqN.mk rfl ⟨fcRows _ _, EqI.mk rfl (EqI.mk rfl ⟨rfl, EqB.mk rfl ⟨hb0, EqB.mk rfl (EqN.mk rfl ⟨fcRows _ _, Cond.mk (fun _ => Cond.mk (fun _ => Cond.mk (fun _ => rfl) fun c => ?_) fun c => ?_) fun c => ?_⟩)⟩⟩)⟩⟩))))))
      · have c := of_decide_eq_false c
        refine Asks.mk (isFacts_facts _ _) (Asks.mk r1 (Asks.mk (isFacts_facts _ _) (Asks.mk r2 (Asks.mk (strs_hashed r1 (show l.length ≤ 1000 by omega)) (Asks.mk (strs_hashed r2 (show l'.length ≤ 1000 by omega)) ?_)))))
        have hc : ¬ NoCol (hashedL l.length (getL l)) (hashedL l'.length (getL l')) := fun hc => by
          cases hsm : sm with
          | true =>
            have q := siff.1 hsm
            have := lists_eq q.1 q.2
            subst this
            rw [hsm] at c
            exact c (beq_bytes.2 rfl)
          | false =>
            rw [hsm] at c
            have hr : sumF (topOf l.length (getL l)) = sumF (topOf l'.length (getL l')) := beq_bytes.1 (by
              cases e : List.beq (sumF (topOf l.length (getL l))) (sumF (topOf l'.length (getL l'))) with
              | true => rfl
              | false => exact absurd e c)
            have q := roots_inj r1 r2 hc hr
            have := siff.2 q
            rw [hsm] at this; cases this
        have := colF_of hc
        show AV.bool (colF _) = .bool true
        exact congrArg AV.bool this
      · exact absurd (of_decide_eq_false c) (fun h => h rfl)
      · exact absurd (of_decide_eq_false c) (fun h => h rfl))
  cases o with
  | ret a H1 =>
    obtain ⟨k0, k1⟩ := Asks.and h1
    have k1 : a = .bool true := k1
    subst k1
    exact h2.le (ResLe.of [] (HeapLe.of rfl rfl rfl rfl k0 (allN_iff.2 fun l _ => trivial)) rfl)
  | pan a H1 => exact h1.elim
end Go.Sx
end
section
set_option maxRecDepth 1000000
namespace Go.Sx
open Go Go.ChangeShapes Go.WideShapes Go.Deep
def intsRow (m : Nat) (X : Nat → Nat → Int) (j : Nat) : List AV := (List.range m).map fun k => .int .i64 (X j k)
def FzAll (ρ : Env) (W : World) : Prop := ∀ b cs el fr, W.heap[b]? = some (.cells cs el fr) → ρ.fz b = some cs.toList
section
variable {H : Type} {enc : TypeId × Value → H} {P : Program} {W : World} {sp : Nat → Bool} {held : Bool}
theorem ints_cell {ρ : Env} : ∀ {m : Nat} {us : List Value} {x : Nat → Int}, us.length = m → (∀ k, k < m → us[k]? = some (.int .i64 (x k))) → VRs ρ ((List.range m).map fun k => .int .i64 (x k)) us
  | 0, us, x, hl, _ => by
    have : us = [] := List.length_eq_zero_iff.1 hl
    subst this; exact rfl
  | m + 1, us, x, hl, h => by
    match us, hl, h with
    | u :: us, hl, h =>
      have h0 := h 0 (by omega)
      simp only [List.getElem?_cons_zero, Option.some.injEq] at h0
      rw [List.range_succ_eq_map, List.map_cons, List.map_map]
      refine ⟨u, us, rfl, h0, ints_cell (m := m) (x := fun k => x (k + 1)) (by simpa using hl) fun k hk => ?_⟩
      have := h (k + 1) (by omega)
      simpa using this
theorem open_rows {ρ : Env} (hρ : FzAll ρ W) {t e i m : Nat} {fuel : Nat} {v : Value} {x : DataW H × List MemPlace} (ht : P.underlying t = some (.slice e)) (he : P.underlying e = some (.array m i)) (hi : P.underlying i = some (.int .i64)) (ci : P.cellsOf i = 1) (ce : P.cellsOf e = m) (hm : 0 < m)
    (h : DataW.trod enc P W 0 sp held fuel t [v] = some x) : ∃ (n : Nat) (X : Nat → Nat → Int), VR ρ (.fslice n m (intsRow m X)) v ∧ ∀ j, j < n → ∀ k, k < m → inR .i64 (X j k) = true := by
  rcases open_slice ht h with ⟨h0, _⟩ | ⟨a, len, cap, mm, nn, D, Pl, hv, _, hl, _, hmm, _, hx⟩
  · cases h0
    refine ⟨0, fun _ _ => 0, ?_, fun j hj => absurd hj (Nat.not_lt_zero _)⟩
    simp [VR]
  · cases hv
    have hlm : len ≤ mm := by rw [hmm]; split <;> omega
    rw [ce] at hx
    by_cases hz : len = 0
    · subst hz
      refine ⟨0, fun _ _ => 0, ?_, fun j hj => absurd hj (Nat.not_lt_zero _)⟩
      simp only [VR]
      exact .inr ⟨0, 0, cap, a, fun _ => [], rfl, hl, fun h => absurd h (Nat.lt_irrefl _)⟩
    · have cells : ∀ j k, j < len → k < m → ∃ z, W.cell? (a.add (j * m + k)) = some (.int .i64 z) ∧ inR .i64 z = true := by
        intro j k hj hk
        obtain ⟨cs', h1, h2⟩ := hx j (by omega)
        obtain ⟨_, hlen, hc⟩ := World.cells?_some h1
        obtain ⟨xs, m', _, _, _, _, hel⟩ := DataW.trod_array he h2
        have hk2 := hel k hk
        rw [ci, Nat.mul_one] at hk2
        have hlt : k < xs.length := by omega
        rw [List.getElem?_eq_getElem hlt] at hk2
        obtain ⟨z, hz1, _, hwf⟩ := DataW.trod_int hi hk2
        have hck : cs'[k]? = some (.int .i64 z) := by
          have := congrArg (·[0]?) hz1
          simpa [List.getElem?_take, List.getElem?_drop] using this
        refine ⟨z, ?_, hwf⟩
        rw [← add_add, hc k hk]; exact hck
      let X : Nat → Nat → Int := fun j k => match W.cell? (a.add (j * m + k)) with | some (.int .i64 z) => z | _ => 0
      have hX : ∀ j k, j < len → k < m → W.cell? (a.add (j * m + k)) = some (.int .i64 (X j k)) ∧ inR .i64 (X j k) = true := by
        intro j k hj hk
        obtain ⟨z, h1, h2⟩ := cells j k hj hk
        have : X j k = z := by simp only [X]; rw [h1]
        rw [this]; exact ⟨h1, h2⟩
      have h00 := (hX 0 0 (by omega) hm).1
      have ea : a.add (0 * m + 0) = a := by simp [Addr.add]
      rw [ea] at h00
      obtain ⟨b, off, spot⟩ := a
      have hspot : spot = none ∧ ∃ cs el fr, W.heap[b]? = some (.cells cs el fr) := by
        unfold World.cell? at h00
        split at h00
        · rename_i c el fr hb
          cases spot with
          | none => exact ⟨rfl, c, el, fr, hb⟩
          | some s => simp at h00
        · cases h00
      obtain ⟨rfl, cs, el, fr, hb⟩ := hspot
      have at_ : ∀ j k, j < len → k < m → cs.toList[off + (j * m + k)]? = some (.int .i64 (X j k)) := by
        intro j k hj hk
        have := (hX j k hj hk).1
        have e1 : (Addr.mk b off none).add (j * m + k) = ⟨b, off + (j * m + k), none⟩ := by
          unfold Addr.add
          by_cases hz : j * m + k = 0
          · rw [if_pos hz, hz]; rfl
          · rw [if_neg hz]
        rw [e1] at this
        simp only [World.cell?, hb, Option.isSome_none, Bool.false_eq_true, if_false] at this
        simpa using this
      have hlast : off + len * m ≤ cs.toList.length := by
        have := (List.getElem?_eq_some_iff.1 (at_ (len - 1) (m - 1) (by omega) (by omega))).1
        have e2 : (len - 1) * m + m = len * m := by
          obtain ⟨l, rfl⟩ : ∃ l, len = l + 1 := ⟨len - 1, by omega⟩
          rw [Nat.add_sub_cancel, Nat.succ_mul]
        omega
      refine ⟨len, X, ?_, fun j hj k hk => (hX j k hj hk).2⟩
      simp only [VR]
      refine .inr ⟨b, off, cap, ⟨b, off, none⟩, fun j => (cs.toList.drop (off + j * m)).take m, rfl, hl, fun _ => ⟨rfl, ⟨?_, cs.toList.take off, cs.toList.drop (off + len * m), by rw [List.length_take]; omega, ?_⟩, fun j hj => ?_⟩⟩
      · intro u hu
        obtain ⟨j, hj, hu⟩ := List.mem_flatMap.1 hu
        have hj := List.mem_range.1 hj
        obtain ⟨k, hk⟩ := List.mem_iff_getElem?.1 hu
        have hkm : k < m := by
          have := (List.getElem?_eq_some_iff.1 hk).1
          simp at this; omega
        rw [List.getElem?_take_of_lt hkm, List.getElem?_drop, Nat.add_assoc, at_ j k hj hkm] at hk
        cases hk; rfl
      · rw [hρ b cs el fr hb, flat_cut hlast, ← List.drop_drop]
        rw [List.append_assoc, List.take_append_drop, List.take_append_drop]
      · have hlen : ((cs.toList.drop (off + j * m)).take m).length = m := by
          have : j * m + m ≤ len * m := by
            have := Nat.mul_le_mul_right m (show j + 1 ≤ len from hj)
            rw [Nat.succ_mul] at this; exact this
          simp only [List.length_take, List.length_drop]; omega
        refine ⟨hlen, ints_cell hlen fun k hk => ?_⟩
        rw [List.getElem?_take_of_lt hk, List.getElem?_drop, Nat.add_assoc]
        exact at_ j k hj hk
theorem all_stays {W' : World} {sp' : Nat → Bool} {T : TypeId → Prop} (K : Kids P T) (hz : ∀ {t e : TypeId}, T t → P.underlying t = some (.slice e) → 0 < P.cellsOf e) : ∀ {ts : List TypeId} {vs : List Value} {ds : List (DataW H)} {ps : List MemPlace}, (∀ t ∈ ts, T t) →
    DataW.TrodAll enc P W 0 (fun _ => true) true ts vs ds ps → (∀ p ∈ ps, W.sameAt W' p) → (∀ p ∈ ps, sp' p.block = true) → DataW.TrodAll enc P W' 0 sp' true ts vs ds ps
  | [], [], [], _, _, h, _, _ => h
  | _ :: _, _ :: _, _ :: _, _, hT, ⟨p, q, ⟨n, h1⟩, h2, e⟩, hs, hb => ⟨p, q, ⟨n, DataW.trod_stays K hz (fun h => by cases h) (hT _ (List.mem_cons.2 (.inl rfl))) h1 (fun x hx => hs x (by rw [e]; exact List.mem_append_left _ hx)) (fun x hx => hb x (by rw [e]; exact List.mem_append_left _ hx))⟩,
      all_stays K hz (fun t ht => hT t (List.mem_cons.2 (.inr ht))) h2 (fun x hx => hs x (by rw [e]; exact List.mem_append_right _ hx)) (fun x hx => hb x (by rw [e]; exact List.mem_append_right _ hx)), e⟩
def OldKept (W W' : World) : Prop := W'.os = W.os ∧ W'.output = W.output ∧ ∀ i, i < W.heap.size → W'.heap[i]? = W.heap[i]?
theorem OldKept.but {W' : World} (h : OldKept W W') (may : MemPlace → Prop) : W.keptBut W' may := by
  refine ⟨h.1, h.2.1, fun i hi => ?_⟩
  rw [h.2.2 i hi]
  cases hw : W.heap[i]? with
  | none => trivial
  | some o => cases o <;> first | exact ⟨rfl, rfl, rfl, fun _ _ => rfl⟩ | exact .inr ⟨rfl, rfl⟩ | rfl
theorem OldKept.same {W' : World} (h : OldKept W W') {p : MemPlace} (hp : p.block < W.heap.size) : W.sameAt W' p := by
  cases p with
  | cell b off => show W'.cell? _ = W.cell? _; unfold World.cell?; rw [h.2.2 b hp]
  | map b => exact h.2.2 b hp
theorem OldKept.frozen {W' : World} (h : OldKept W W') {b off : Nat} (hp : b < W.heap.size) : W'.frozen? ⟨b, off, none⟩ = W.frozen? ⟨b, off, none⟩ := by
  unfold World.frozen?
  rw [h.2.2 b hp]
theorem post_kept {W' : World} {f : Func} {s : ChangeSpec} {apart fresh handsOn again : Bool} {args : Array Value} {v : Value} {ds gs : List (DataW H)} {before : List MemPlace} {T : TypeId → Prop} (K : Kids P T) (hz : ∀ {t e : TypeId}, T t → P.underlying t = some (.slice e) → 0 < P.cellsOf e) (hT : ∀ t ∈ f.params.toList, T t)
    (hvars : s.vars = []) (hW : DataW.Whole enc P f.params.toList s.vars apart W args.toList ds gs before) (hk : OldKept W W')
    (hres : ∀ (b : Nat) (sp : Nat → Bool) (hd : Bool), DataW.TrodAll enc P W' b sp hd f.resultTypes.toList (v.resultList f.resultTypes.size) (s.fn H (ds ++ gs)).results [])
    (hsa : (s.fn H (ds ++ gs)).args = ds) (hsv : (s.fn H (ds ++ gs)).vars = gs)
    (hok : ∀ (j : Nat) (t : TypeId) (r : Value), f.resultTypes[j]? = some t → (v.resultList f.resultTypes.size)[j]? = some r → Value.okWide P W' .any 0 t r) :
    s.post enc P f apart fresh handsOn again W args v W' := by
  have hlt := hW.lt
  have hW0 := hW
  obtain ⟨pa, pv, hA, hV, hps, hfz, hn⟩ := hW
  rw [hvars] at hV
  obtain ⟨rfl, rfl⟩ := trodVars_none hV
  rw [List.append_nil] at hps
  subst hps
  have hargs : ∀ sp : Nat → Bool, (∀ p ∈ before, sp p.block = true) → DataW.TrodAll enc P W' 0 sp true f.params.toList args.toList (s.fn H (ds ++ [])).args before := fun sp hs => by
    rw [hsa]; exact all_stays K hz hT hA (fun p hp => hk.same (hlt p hp)) hs
  have hvs : ∀ sp : Nat → Bool, DataW.TrodVars enc P W' sp s.vars (s.fn H (ds ++ [])).vars [] := fun sp => by rw [hvars, hsv]; exact rfl
  have hold : ∀ p ∈ before, (fun b => decide (b < W.heap.size)) p.block = true := fun p hp => by simpa using hlt p hp
  refine ⟨ds, [], before, [], before, [], hW0, hres _ _ _, hargs _ hold, hvs _, hk.but _, fun _ => ?_⟩
  refine ⟨hok, _, _, ([] ++ before) ++ [], ⟨[] ++ before, [], trodAll_append (hargs _ (fun _ _ => rfl)) (hres _ _ _), hvs _, rfl, ?_, ?_⟩, ?_⟩
  · intro b off hp
    have hp' : MemPlace.cell b off ∈ before := by simpa using hp
    rw [hk.frozen (b := b) (off := off) (hlt _ hp')]
    exact hfz b off hp'
  · intro ha
    simpa using hn ha
  · intro p hp _
    simpa using hp
end
end Go.Sx
end
section
set_option maxRecDepth 1000000
namespace Go.Sx
open Go
theorem now_mem {kd : TypeDesc} {kv : Value} : ∀ {l : List MapEntry} {j i : Nat} {v : Value}, Instr.findNow kd kv l j = some (some (i, v)) → ∃ x ∈ l, Instr.sameNow kd kv x.key = some true ∧ v = x.val
  | [], _, _, _, h => by simp [Instr.findNow] at h
  | x :: l, j, i, v, h => by
    unfold Instr.findNow at h
    split at h
    · rename_i hs
      simp only [Option.some.injEq, Prod.mk.injEq] at h
      exact ⟨x, List.mem_cons_self, hs, h.2.symm⟩
    · obtain ⟨y, h1, h2, h3⟩ := now_mem h
      exact ⟨y, List.mem_cons_of_mem _ h1, h2, h3⟩
    · cases h
theorem now_int {kd : TypeDesc} {kv : Value} {n : Int} (h : Instr.sameNow kd kv (.int .i64 n) = some true) : ∃ q, kd = .int q ∧ kv = .int .i64 n := by
  cases kd <;> cases kv <;> simp [Instr.sameNow] at h
  rename_i q k a
  obtain ⟨rfl, rfl⟩ := h
  exact ⟨q, rfl, rfl⟩
theorem now_found {q : IntKind} {n : Int} {u : Value} : ∀ {l : List MapEntry} (_ : ∀ x ∈ l, ∃ m, x.key = .int .i64 m) (_ : ∀ x ∈ l, x.key = .int .i64 n → x.val = u) (j : Nat) (_ : ∃ x ∈ l, x.key = .int .i64 n), ∃ i, Instr.findNow (.int q) (.int .i64 n) l j = some (some (i, u))
  | [], _, _, _, h => by obtain ⟨x, hx, _⟩ := h; cases hx
  | x :: l, h1, h2, j, h3 => by
    obtain ⟨m, hm⟩ := h1 x List.mem_cons_self
    unfold Instr.findNow
    by_cases e : n = m
    · subst e
      rw [hm]
      simp only [Instr.sameNow, if_true, beq_self_eq_true]
      exact ⟨j, by rw [h2 x List.mem_cons_self hm]⟩
    · rw [hm]
      have : (n == m) = false := by simpa using e
      simp only [Instr.sameNow, if_true, this]
      refine now_found (fun y hy => h1 y (List.mem_cons_of_mem _ hy)) (fun y hy => h2 y (List.mem_cons_of_mem _ hy)) (j + 1) ?_
      obtain ⟨y, hy, hk⟩ := h3
      rcases List.mem_cons.1 hy with rfl | hy
      · rw [hm] at hk; cases hk; exact absurd rfl e
      · exact ⟨y, hy, hk⟩
theorem same_found {ms' ms : List MapEntry} (hsub : ∀ x ∈ ms', x ∈ ms) (hk : ∀ x ∈ ms, ∃ n, x.key = .int .i64 n) (hd : ∀ x ∈ ms, ∀ y ∈ ms, x.key = y.key → x.val = y.val) : SameFound ms' ms := by
  intro kd kv i v h
  obtain ⟨x, h1, h2, rfl⟩ := now_mem h
  obtain ⟨n, hn⟩ := hk x (hsub x h1)
  rw [hn] at h2
  obtain ⟨q, rfl, rfl⟩ := now_int h2
  exact now_found hk (fun y hy e => hd y hy x (hsub x h1) (by rw [e, hn])) 0 ⟨x, hsub x h1, hn⟩
theorem five_rel {ms : List MapEntry} {V : Nat → Value} (h1 : ∀ x ∈ ms, ∃ i : Nat, i < 5 ∧ x.key = .int .i64 ((i : Int) + 1) ∧ x.val = V i) (h2 : ∀ i : Nat, i < 5 → ∃ x ∈ ms, x.key = .int .i64 ((i : Int) + 1)) :
    ∃ ms' : List MapEntry, ms'.map (·.key) = [.int .i64 1, .int .i64 2, .int .i64 3, .int .i64 4, .int .i64 5] ∧ ms'.map (·.val) = [V 0, V 1, V 2, V 3, V 4] ∧ SameFound ms' ms := by
  have val : ∀ i : Nat, i < 5 → ∀ x ∈ ms, x.key = .int .i64 ((i : Int) + 1) → x.val = V i := fun i hi x hx e => by
    obtain ⟨j, _, h3, h4⟩ := h1 x hx
    rw [h3] at e
    have : (j : Int) + 1 = (i : Int) + 1 := by injection e
    have : j = i := by omega
    rw [h4, this]
  obtain ⟨x0, m0, k0⟩ := h2 0 (by omega)
  obtain ⟨x1, m1, k1⟩ := h2 1 (by omega)
  obtain ⟨x2, m2, k2⟩ := h2 2 (by omega)
  obtain ⟨x3, m3, k3⟩ := h2 3 (by omega)
  obtain ⟨x4, m4, k4⟩ := h2 4 (by omega)
  refine ⟨[x0, x1, x2, x3, x4], ?_, ?_, same_found (fun x hx => ?_) (fun x hx => ?_) fun x hx y hy e => ?_⟩
  · simp only [List.map_cons, List.map_nil, k0, k1, k2, k3, k4]; rfl
  · simp only [List.map_cons, List.map_nil, val 0 (by omega) x0 m0 k0, val 1 (by omega) x1 m1 k1, val 2 (by omega) x2 m2 k2, val 3 (by omega) x3 m3 k3, val 4 (by omega) x4 m4 k4]
  · simp only [List.mem_cons, List.not_mem_nil, or_false] at hx
    rcases hx with rfl | rfl | rfl | rfl | rfl <;> assumption
  · obtain ⟨i, _, h3, _⟩ := h1 x hx
    exact ⟨_, h3⟩
  · obtain ⟨i, hi, h3, h4⟩ := h1 x hx
    rw [h4, val i hi y hy (by rw [← e, h3])]
end Go.Sx
end
