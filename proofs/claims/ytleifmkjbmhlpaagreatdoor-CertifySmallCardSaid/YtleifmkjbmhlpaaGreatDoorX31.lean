/- CertifySmall is proved, part 31. -/
import Derived.Test.YtleifmkjbmhlpaaGreatDoorX30
import Derived.Test.YtleifmkjbmhlpaaGreatDoorX26
import Derived.Test.YtleifmkjbmhlpaaGreatDoorX21
import Derived.OpenShut
import Derived.ReadAgain
import Derived.ChangeStays
import Derived.ChangeSame
import Derived.Deep.Slices
import Derived.Test.YtleifmkjbmhlpaaGreatDoorX10
import Derived.Test.YtleifmkjbmhlpaaGreatDoorX06
import Derived.Test.YtleifmkjbmhlpaaGreatDoorX04
set_option linter.unusedVariables false
set_option linter.unusedSimpArgs false
set_option linter.unusedSectionVars false
section
set_option maxRecDepth 1000000
namespace Go.Sx
open Go
theorem place_lt {x y : Fact} (h : ltF x y = true) : placeF x y < 0 ∧ 0 < placeF y x := by
  unfold ltF at h
  simp only [Bool.or_eq_true, Bool.and_eq_true, decide_eq_true_eq] at h
  unfold placeF cmpF orF
  repeat' split <;> omega
theorem small_valid {x : Fact} (h : small x) : validF x = true := by
  obtain ⟨h1, h2, h3, h4, h5, h6, h7, h8, h9, h10, h11⟩ := h
  unfold validF
  simp only [Bool.and_eq_true, decide_eq_true_eq, ge_iff_le]
  refine ⟨⟨⟨⟨⟨⟨⟨⟨⟨?_, ?_⟩, ?_⟩, ?_⟩, ?_⟩, ?_⟩, h7⟩, ?_⟩, ?_⟩, ?_⟩ <;> omega
theorem small_ok {x : Fact} (h : small x) : factOk x = true := by
  obtain ⟨h1, h2, h3, h4, h5, h6, h7, h8, h9, h10, h11⟩ := h
  have hd : 0 ≤ x.d ∧ x.d ≤ 30 := by
    rw [h7]
    obtain ⟨k, hk⟩ : ∃ k : Nat, x.t = (k : Int) := ⟨x.t.toNat, by omega⟩
    have : Int.tdiv x.t 10 = ((k / 10 : Nat) : Int) := by rw [hk]; rfl
    rw [this]; omega
  unfold factOk okI
  simp only [Bool.and_eq_true, decide_eq_true_eq]
  omega
theorem sortedTo_mk {F : Nat → Fact} : ∀ {k : Nat}, (∀ i, i + 1 ≤ k → ltF (F i) (F (i + 1)) = true) → sortedTo F k = true
  | 0, _ => rfl
  | k + 1, h => by
    have := (place_lt (h k (Nat.le_refl _))).2
    show (!decide (placeF (F (k + 1)) (F k) < 0) && sortedTo F k) = true
    rw [sortedTo_mk fun i hi => h i (by omega), decide_eq_false (by omega)]; rfl
theorem made_prove (X : Nat → Nat → Int) {i : Nat} (hi : i ≤ 40) : proveOk (madeL X i).length (getL (madeL X i)) = true := by
  have hlen := madeL_len X i
  have hs := madeL_small X i
  have ho := madeL_ord X i
  generalize madeL X i = l at *
  have hv : validsF l.length (getL l) = true := by
    unfold validsF allOk
    rw [decide_eq_true (by omega), Bool.and_true, Bool.and_eq_true]
    refine ⟨List.all_eq_true.2 fun k hk => ?_, sortedTo_mk fun j hj => ordL_get l j ho (by omega)⟩
    have hk := List.mem_range.1 hk
    unfold okAt
    rw [small_valid (hs _ (getL_mem hk)), Bool.true_and]
    cases k with
    | zero => rfl
    | succ k =>
      have := (place_lt (ordL_get l k ho hk)).1
      show (!decide (placeF (getL l k) (getL l (k + 1)) ≥ 0)) = true
      rw [decide_eq_false (by omega)]; rfl
  unfold proveOk
  rw [hv, Bool.true_and]
  cases h0 : Nat.beq l.length 0 with
  | true => rfl
  | false =>
    have : l.length ≠ 0 := fun e => by rw [e] at h0; cases h0
    rw [Bool.false_or]
    simp only [Bool.and_eq_true, growOk]
    refine ⟨⟨⟨Nat.ble_eq_true_of_le (by omega), Nat.ble_eq_true_of_le (by show 2 * l.length ≤ 1048576; omega)⟩, ?_⟩, Nat.ble_eq_true_of_le (by omega)⟩
    exact List.all_eq_true.2 fun k hk => small_ok (hs _ (getL_mem (List.mem_range.1 hk)))
theorem condI_facts (X : Nat → Nat → Int) (j : Nat) : (1 ≤ condI X j 0 ∧ condI X j 0 ≤ 8) ∧ (1 ≤ condI X j 1 ∧ condI X j 1 ≤ 4) ∧ (-1 ≤ condI X j 2 ∧ condI X j 2 ≤ 38) := by
  have h1 := pickF_lt (c := X j 0) (n := 11) (by omega)
  have h2 := pickF_lt (c := X j 1) (n := 4) (by omega)
  have h3 := pickF_lt (c := X j 2) (n := 40) (by omega)
  refine ⟨?_, ?_, ?_⟩
  · show 1 ≤ fieldI (X j 0) ∧ fieldI (X j 0) ≤ 8
    unfold fieldI
    split
    · omega
    · rename_i h; have := of_decide_eq_false h; omega
  · show 1 ≤ 1 + pickF (X j 1) 4 ∧ 1 + pickF (X j 1) 4 ≤ 4; omega
  · show -1 ≤ pickF (X j 2) 40 - 1 ∧ pickF (X j 2) 40 - 1 ≤ 38; omega
theorem getD_app {l m : List Int} {i : Nat} {d : Int} (h : i < l.length) : (l ++ m).getD i d = l.getD i d := by
  rw [List.getD_eq_getElem?_getD, List.getD_eq_getElem?_getD, List.getElem?_append_left h]
theorem grpL_facts (p : Int) : ∀ (k i : Nat), i < (grpL p k).length → (1 ≤ (grpL p k).getD i 0 ∧ (grpL p k).getD i 0 ≤ (k : Int)) ∧ (i = 0 ∨ (grpL p k).getD (i - 1) 0 < (grpL p k).getD i 0)
  | 0, i, h => by simp [grpL] at h
  | k + 1, i, h => by
    have ih := grpL_facts p k
    unfold grpL at h ⊢
    split at h
    · rename_i hb
      simp only [List.length_append, List.length_singleton] at h
      by_cases e : i < (grpL p k).length
      · have := ih i e
        rw [getD_app e]
        refine ⟨by omega, ?_⟩
        rcases this.2 with h0 | h0
        · exact .inl h0
        · right; rw [getD_app (by omega)]; exact h0
      · have ei : i = (grpL p k).length := by omega
        have el : (grpL p k ++ [(k : Int) + 1]).getD i 0 = (k : Int) + 1 := by
          rw [ei, List.getD_eq_getElem?_getD, List.getElem?_append_right (Nat.le_refl _), Nat.sub_self]; rfl
        rw [el]
        refine ⟨by omega, ?_⟩
        by_cases h0 : i = 0
        · exact .inl h0
        · right
          have := ih (i - 1) (by omega)
          rw [getD_app (by omega)]
          omega
    · rename_i hb
      have := ih i h
      refine ⟨by omega, this.2⟩
theorem isTen_mk {k : Nat} (h : k < 11) : isTen (tenN k) (tenD k) = true := List.any_eq_true.2 ⟨k, List.mem_range.2 h, by simp⟩
theorem made_qok (agg : Int) (n : Nat) (X : Nat → Nat → Int) (g top : Int) : qok (madeQ agg n X g top) = true := by
  have hg := grpL_facts (pickF g 64) 6
  have hl := grpL_len (pickF g 64) 6
  have h5 := pickF_lt (c := agg) (n := 5) (by omega)
  have h2 := pickF_lt (c := Int.tdiv agg 5) (n := 2) (by omega)
  have h11 := pickF_lt (c := Int.tdiv agg 10) (n := 11) (by omega)
  have ht := pickF_lt (c := top) (n := 5) (by omega)
  unfold qok
  simp only [Bool.and_eq_true, decide_eq_true_eq]
  refine ⟨⟨⟨⟨⟨?_, hl⟩, ?_⟩, ?_⟩, ?_⟩, ?_⟩
  · show min n 6 ≤ 6; omega
  · refine List.all_eq_true.2 fun j _ => ?_
    have := condI_facts X j
    show (decide (1 ≤ condI X j 0) && decide (condI X j 0 ≤ 8) && decide (1 ≤ condI X j 1) && decide (condI X j 1 ≤ 4) && decide (-1 ≤ condI X j 2) && decide (condI X j 2 ≤ 4398046511104)) = true
    simp only [Bool.and_eq_true, decide_eq_true_eq]
    omega
  · refine List.all_eq_true.2 fun j hj => ?_
    have := hg j (List.mem_range.1 hj)
    show (decide (1 ≤ (grpL (pickF g 64) 6).getD j 0) && decide ((grpL (pickF g 64) 6).getD j 0 ≤ 6) && (Nat.beq j 0 || decide ((grpL (pickF g 64) 6).getD (j - 1) 0 < (grpL (pickF g 64) 6).getD j 0))) = true
    rw [decide_eq_true this.1.1, decide_eq_true (show (grpL (pickF g 64) 6).getD j 0 ≤ 6 from this.1.2), Bool.true_and, Bool.true_and]
    rcases this.2 with h | h
    · rw [h]; rfl
    · rw [decide_eq_true h, Bool.or_true]
  · show (decide (0 ≤ (madeQ agg n X g top).top) && decide ((madeQ agg n X g top).top ≤ 100) && (decide ((madeQ agg n X g top).top ≤ 0) || Nat.blt 0 (grpL (pickF g 64) 6).length)) = true
    have e : (madeQ agg n X g top).top = match decide (Int.ofNat (grpL (pickF g 64) 6).length > 0) with | true => pickF top 5 | false => 0 := rfl
    rw [e]
    cases hb : decide (Int.ofNat (grpL (pickF g 64) 6).length > 0) with
    | true =>
      have hb := of_decide_eq_true hb
      have : 0 < (grpL (pickF g 64) 6).length := by
        have : ((grpL (pickF g 64) 6).length : Int) > 0 := hb
        omega
      simp only
      rw [decide_eq_true (show 0 ≤ pickF top 5 by omega), decide_eq_true (show pickF top 5 ≤ 100 by omega), blt_true this, Bool.or_true]; rfl
    | false => rfl
  · unfold aggB
    have ea : (madeQ agg n X g top).a = 1 + pickF agg 5 := rfl
    have ef : (madeQ agg n X g top).fl = match decide (1 + pickF agg 5 > 1) with | true => 7 + pickF (Int.tdiv agg 5) 2 | false => 0 := rfl
    have en : (madeQ agg n X g top).nu = match decide (1 + pickF agg 5 = 5) with | true => tenN (Int.toNat (pickF (Int.tdiv agg 10) 11)) | false => [] := rfl
    have ed : (madeQ agg n X g top).de = match decide (1 + pickF agg 5 = 5) with | true => tenD (Int.toNat (pickF (Int.tdiv agg 10) 11)) | false => [] := rfl
    rw [ea, ef, en, ed]
    generalize pickF agg 5 = a at *
    have hfl : (decide (7 + pickF (Int.tdiv agg 5) 2 = 7) || decide (7 + pickF (Int.tdiv agg 5) 2 = 8)) = true := by
      simp only [Bool.or_eq_true, decide_eq_true_eq]; omega
    have : a = 0 ∨ a = 4 ∨ (1 ≤ a ∧ a ≤ 3) := by omega
    rcases this with rfl | rfl | h
    · rfl
    · have e1 : decide ((1 : Int) + 4 > 1) = true := rfl
      have e2 : decide ((1 : Int) + 4 = 5) = true := rfl
      rw [e1, e2]
      simp only
      rw [hfl, isTen_mk (by omega)]
      simp
    · have e1 : decide (1 + a > 1) = true := decide_eq_true (by omega)
      have e2 : decide (1 + a = 5) = false := decide_eq_false (by omega)
      rw [e1, e2]
      simp only
      rw [hfl, decide_eq_true (show 2 ≤ 1 + a by omega), decide_eq_true (show 1 + a ≤ 4 by omega)]
      simp
theorem made_ints (agg : Int) (n : Nat) (X : Nat → Nat → Int) (g top : Int) : intsRows 3 (madeQ agg n X g top).nw (qRow (madeQ agg n X g top).C) = true := by
  refine List.all_eq_true.2 fun j _ => ?_
  have := condI_facts X j
  show (inR .i64 (condI X j 0) && (inR .i64 (condI X j 1) && (inR .i64 (condI X j 2) && true))) = true
  rw [inR_small (by omega) (by omega), inR_small (by omega) (by omega), inR_small (by omega) (by omega)]; rfl
theorem made_grps (agg : Int) (n : Nat) (X : Nat → Nat → Int) (g top : Int) : intsRows 1 (madeQ agg n X g top).ng (gRow (madeQ agg n X g top).G) = true := by
  refine List.all_eq_true.2 fun j hj => ?_
  have := grpL_facts (pickF g 64) 6 j (List.mem_range.1 hj)
  show (inR .i64 ((grpL (pickF g 64) 6).getD j 0) && true) = true
  rw [inR_small (by omega) (by omega)]; rfl
theorem made_ops (agg : Int) (n : Nat) (X : Nat → Nat → Int) (g top : Int) : opsB (madeQ agg n X g top).nw (madeQ agg n X g top).C = true := by
  unfold opsB
  rw [Bool.and_eq_true]
  refine ⟨decide_eq_true (by show min n 6 ≤ 6; omega), List.all_eq_true.2 fun j _ => ?_⟩
  have := condI_facts X j
  show (decide (1 ≤ condI X j 0) && decide (condI X j 0 ≤ 8) && decide (1 ≤ condI X j 1) && decide (condI X j 1 ≤ 4)) = true
  simp only [Bool.and_eq_true, decide_eq_true_eq]
  omega
end Go.Sx
end
section
set_option maxRecDepth 1000000
namespace Go.Sx
open Go Small
theorem bits_le : ∀ (c n : Nat), Small.bits c n ≤ n
  | 0, n => Nat.zero_le _
  | c + 1, n => by
    cases h : Nat.beq n 0 with
    | true =>
      have : Small.bits (c + 1) n = 0 := by
        show (bif Nat.beq n 0 then 0 else 1 + Small.bits c (n / 2)) = 0
        rw [h]; rfl
      omega
    | false =>
      rw [bits_pos c h]
      have := bits_le c (n / 2)
      have h0 : n ≠ 0 := fun e => by rw [e] at h; cases h
      omega
theorem few_pieces {L : Nat} {F : Nat → Fact} (h : proveOk L F = true) (nw : Nat) (C : Nat → Nat → Int) {P : List Piece} (hP : P = provedP L F nw C) :
    P.length ≤ 2 * L - 1 ∧ (idleTo (P.map Piece.k) P.length = true ∨ P.length ≤ max 1 (factsTo (P.map Piece.k) P.length + 2 * factsTo (P.map Piece.k) P.length * Small.bits L L)) := by
  have el : (P.map Piece.k).length = P.length := List.length_map ..
  have a1 : idleTo (P.map Piece.k) P.length = idleL (P.map Piece.k) := by rw [← el]; exact idleTo_all _
  have a2 : factsTo (P.map Piece.k) P.length = factsL (P.map Piece.k) := by rw [← el]; exact factsTo_all _
  rw [a1, a2]
  unfold proveOk at h
  unfold provedP at hP
  cases h0 : Nat.beq L 0 with
  | true =>
    rw [h0, cond_true] at hP
    subst hP
    exact ⟨Nat.zero_le _, .inr (Nat.zero_le _)⟩
  | false =>
    rw [h0] at h
    simp only [Bool.false_or, Bool.and_eq_true] at h
    obtain ⟨hv, ⟨hg, hf⟩, hn⟩ := h
    rw [h0, cond_false] at hP
    have hb := lt_bits L L (Nat.le_refl _)
    have hgf := grow_facts 20 L F (Small.bits L L) hg (by omega)
    have hk := kinds_pieces (exN nw C) (growT 20 L F)
    rw [← hP] at hk
    have ho := opens_prune (exN nw C) (growT 20 L F)
    have hh := height_prune (exN nw C) (growT 20 L F)
    rw [hgf.1] at ho
    have := Small.small (pruneT (exN nw C) (growT 20 L F)) L (Small.bits L L) ho (Nat.le_trans hh hgf.2) (Small.bits L L) (Nat.le_refl _)
    rw [← hk, el] at this
    exact this
theorem kinds_of {P : List Piece} {L : Nat} {F : Nat → Fact} (h : P.length ≤ 1000000) : KindsOf ⟨L, F, P.length, fun j => P.getD j openP⟩ (P.map Piece.k) := by
  refine ⟨List.length_map .., fun j hj => ?_, h⟩
  show (P.getD j openP).k = (P.map Piece.k).getD j 0
  rw [List.getD_eq_getElem?_getD, List.getD_eq_getElem?_getD, List.getElem?_map, List.getElem?_eq_getElem hj]; rfl
theorem catR_at (P : List Piece) (j : Nat) : catR 0 (fun _ => []) P j = pieceAV (P.getD j openP) := by
  unfold catR
  rw [blt_false (by omega), cond_false, Nat.sub_zero]
open Classical in
theorem hsIs_mk {b0 b1 b3 b13 : ABlk} (h0 : b0 = Hs.get 0) (h1 : b1 = Hs.get 1) (h3 : b3 = Hs.get 3) (h13 : b13 = Hs.get 13) : hsIs b0 b1 b3 b13 = true := by
  unfold hsIs
  exact decide_eq_true ⟨h0, h1, h3, h13⟩
theorem law_ok {n : Nat} {X : Nat → Nat → Int} {m : Nat} {C : Nat → Nat → Int} {agg g top : Int} (hX : intsRows 4 n (xRow X) = true) (hC : intsRows 3 m (qRow C) = true) (ha : inR .i64 agg = true) (hg : inR .i64 g = true) (ht : inR .i64 top = true) :
    CallGives PP II 4 [.fslice n 4 (xRow X), .agg [.int .i64 agg, .fslice m 3 (qRow C), .int .i64 g, .int .i64 top]] Hs (.ret (.bool true) (AH.blank 14)) := by
  have hp := made_prove (rowsX (xRow X)) (i := min n 40) (by omega)
  have hlen := madeL_len (rowsX (xRow X)) (min n 40)
  have hv := law_vc n X m C agg g top
  have q1 := made_ints agg m (rowsX (qRow C)) g top
  have q2 := made_grps agg m (rowsX (qRow C)) g top
  have q3 := made_ops agg m (rowsX (qRow C)) g top
  have q4 := made_qok agg m (rowsX (qRow C)) g top
  generalize madeL (rowsX (xRow X)) (min n 40) = l at *
  generalize madeQ agg m (rowsX (qRow C)) g top = q at *
  generalize hP : provedP l.length (getL l) q.nw (rowsX (qRow q.C)) = P at *
  have few := few_pieces hp q.nw (rowsX (qRow q.C)) hP.symm
  have hM : P.length ≤ 80 := by omega
  have kk := kinds_of (P := P) (L := l.length) (F := getL l) (by omega)
  have fl := factsTo_le (P.map Piece.k) P.length
  have bl := bits_le l.length l.length
  generalize hf : factsTo (P.map Piece.k) P.length = f at *
  generalize hb : idleTo (P.map Piece.k) P.length = id at *
  generalize ht' : Small.bits l.length l.length = bt at *
  have loop1 := pieces_loop kk
  have loop2 := bits_loop (w := ⟨l.length, getL l, P.length, fun j => P.getD j openP⟩) (by show l.length ≤ 1000000; omega) (fc := (f : Int)) (b := id)
  have eL : LW.L ⟨l.length, getL l, P.length, fun j => P.getD j openP⟩ = l.length := rfl
  have eM : LW.M ⟨l.length, getL l, P.length, fun j => P.getD j openP⟩ = P.length := rfl
  rw [eM, hf, hb] at loop1
  rw [eL, ht'] at loop2
  have prod : f * bt ≤ 80 * 40 := Nat.mul_le_mul (by omega) (by omega)
  have e1 : (2 : Int) * (f : Int) * (bt : Int) = ((2 * f * bt : Nat) : Int) := by push_cast; rfl
  have e2 : 2 * f * bt = 2 * (f * bt) := Nat.mul_assoc ..
  obtain ⟨o, h1, h2⟩ := kbody_ok hII [kSane, kMade10, kMade30, kProve] (lamT_ok PP II [(9005, 18, s4 ⟨l.length, getL l, P.length, fun j => P.getD j openP⟩ 0 0 false, e4 ⟨l.length, getL l, P.length, fun j => P.getD j openP⟩ (f : Int) id), (27002, 18, s4b ⟨l.length, getL l, P.length, fun j => P.getD j openP⟩ (f : Int) id 0 (Int.ofNat l.length), e4b ⟨l.length, getL l, P.length, fun j => P.getD j openP⟩ (f : Int) id (bt : Int))]) 1000 4
    [.fslice n 4 (xRow X), .agg [.int .i64 agg, .fslice m 3 (qRow C), .int .i64 g, .int .i64 top]] Hs (fun a H => Asks (Nat.ble 14 H.n) (a = .bool true)) (fun _ _ => False) (by
      refine (hv ⟨l.length, getL l, P.length, fun j => P.getD j openP⟩ (f : Int) id (bt : Int) (fun a => a = .bool true)).mpr ?_
      refine Asks.mk' _ _ (hsIs_mk rfl rfl rfl rfl) (Asks.mk' _ _ hX (Asks.mk' _ _ (by rw [hC, ha, hg, ht]; rfl) (Asks.mk' _ _ (isFacts_facts _ _) (Asks.mk' _ _ (by rw [q1, q2]; rfl) (Asks.mk' _ _ hp (Asks.mk' _ _ q3 (Asks.mk' _ _ ((qok_back q).trans q4)
        (Asks.mk' _ _ (inR_small ?_ ?_) (Asks.mk' _ _ (inR_small ?_ ?_) (Cond.mk (fun h => ?_) fun _ => ?_))))))))))
      · show _ ≤ 2 * (l.length : Int); omega
      · show 2 * (l.length : Int) ≤ _; omega
      · show _ ≤ 2 * (l.length : Int) - 1; omega
      · show 2 * (l.length : Int) - 1 ≤ _; omega
      · exfalso
        have h := of_decide_eq_true h
        have h : (P.length : Int) > if 2 * (l.length : Int) - 1 > 0 then 2 * (l.length : Int) - 1 else 0 := h
        split at h <;> omega
      · have rows : RowsLe P.length (catR 0 (fun _ => []) P) (fun j => pieceAV (P.getD j openP)) := fun j hj σ => by rw [catR_at]; exact piece_le _ σ
        refine ⟨loop1, EqI.mk rfl (EqN.mk rfl ⟨rows, rfl, rfl, EqN.mk rfl ⟨rowsF ⟨l.length, getL l, P.length, fun j => P.getD j openP⟩, loop2, EqI.mk rfl (EqN.mk rfl ⟨rowsP ⟨l.length, getL l, P.length, fun j => P.getD j openP⟩, EqI.mk rfl ⟨rfl, EqI.mk rfl ⟨rfl, Cond.mk (fun _ => rfl) fun hid => ?_⟩⟩⟩)⟩⟩)⟩
        refine Asks.mk' _ _ (inR_small ?_ ?_) (Asks.mk' _ _ (inR_small ?_ ?_) (Asks.mk' _ _ (inR_small ?_ ?_) ?_))
        · omega
        · omega
        · rw [e1]; omega
        · rw [e1]; omega
        · rw [e1]; omega
        · rw [e1]; omega
        · show AV.bool (decide ((P.length : Int) ≤ if (f : Int) + 2 * (f : Int) * (bt : Int) > 1 then (f : Int) + 2 * (f : Int) * (bt : Int) else 1)) = .bool true
          have : (P.length : Int) ≤ if (f : Int) + 2 * (f : Int) * (bt : Int) > 1 then (f : Int) + 2 * (f : Int) * (bt : Int) else 1 := by
            rw [e1]
            rcases few.2 with h | h
            · rw [h] at hid; cases hid
            · split <;> omega
          rw [decide_eq_true this])
  cases o with
  | ret a H1 =>
    obtain ⟨k0, k1⟩ := Asks.and h1
    have k1 : a = .bool true := k1
    subst k1
    exact h2.le (ResLe.of [] (HeapLe.of rfl rfl rfl rfl k0 (allN_iff.2 fun l _ => trivial)) rfl)
  | pan a H1 => exact h1.elim
end Go.Sx
end
section
set_option maxRecDepth 1000000
namespace Go.Sx
open Go Go.ChangeShapes Go.WideShapes Go.Deep
def intsRow (m : Nat) (X : Nat → Nat → Int) (j : Nat) : List AV := (List.range m).map fun k => .int .i64 (X j k)
def FzAll (ρ : Env) (W : World) : Prop := ∀ b cs el fr, W.heap[b]? = some (.cells cs el fr) → ρ.fz b = some cs.toList
section
variable {H : Type} {enc : TypeId × Value → H} {P : Program} {W : World} {sp : Nat → Bool} {held : Bool}
theorem ints_cell {ρ : Env} : ∀ {m : Nat} {us : List Value} {x : Nat → Int}, us.length = m → (∀ k, k < m → us[k]? = some (.int .i64 (x k))) → VRs ρ ((List.range m).map fun k => .int .i64 (x k)) us
  | 0, us, x, hl, _ => by
    have : us = [] := List.length_eq_zero_iff.1 hl
    subst this; exact rfl
  | m + 1, us, x, hl, h => by
    match us, hl, h with
    | u :: us, hl, h =>
      have h0 := h 0 (by omega)
      simp only [List.getElem?_cons_zero, Option.some.injEq] at h0
      rw [List.range_succ_eq_map, List.map_cons, List.map_map]
      refine ⟨u, us, rfl, h0, ints_cell (m := m) (x := fun k => x (k + 1)) (by simpa using hl) fun k hk => ?_⟩
      have := h (k + 1) (by omega)
      simpa using this
theorem open_rows {ρ : Env} (hρ : FzAll ρ W) {t e i m : Nat} {fuel : Nat} {v : Value} {x : DataW H × List MemPlace} (ht : P.underlying t = some (.slice e)) (he : P.underlying e = some (.array m i)) (hi : P.underlying i = some (.int .i64)) (ci : P.cellsOf i = 1) (ce : P.cellsOf e = m) (hm : 0 < m)
    (h : DataW.trod enc P W 0 sp held fuel t [v] = some x) : ∃ (n : Nat) (X : Nat → Nat → Int), VR ρ (.fslice n m (intsRow m X)) v ∧ ∀ j, j < n → ∀ k, k < m → inR .i64 (X j k) = true := by
  rcases open_slice ht h with ⟨h0, _⟩ | ⟨a, len, cap, mm, nn, D, Pl, hv, _, hl, _, hmm, _, hx⟩
  · cases h0
    refine ⟨0, fun _ _ => 0, ?_, fun j hj => absurd hj (Nat.not_lt_zero _)⟩
    simp [VR]
  · cases hv
    have hlm : len ≤ mm := by rw [hmm]; split <;> omega
    rw [ce] at hx
    by_cases hz : len = 0
    · subst hz
      refine ⟨0, fun _ _ => 0, ?_, fun j hj => absurd hj (Nat.not_lt_zero _)⟩
      simp only [VR]
      exact .inr ⟨0, 0, cap, a, fun _ => [], rfl, hl, fun h => absurd h (Nat.lt_irrefl _)⟩
    · have cells : ∀ j k, j < len → k < m → ∃ z, W.cell? (a.add (j * m + k)) = some (.int .i64 z) ∧ inR .i64 z = true := by
        intro j k hj hk
        obtain ⟨cs', h1, h2⟩ := hx j (by omega)
        obtain ⟨_, hlen, hc⟩ := World.cells?_some h1
        obtain ⟨xs, m', _, _, _, _, hel⟩ := DataW.trod_array he h2
        have hk2 := hel k hk
        rw [ci, Nat.mul_one] at hk2
        have hlt : k < xs.length := by omega
        rw [List.getElem?_eq_getElem hlt] at hk2
        obtain ⟨z, hz1, _, hwf⟩ := DataW.trod_int hi hk2
        have hck : cs'[k]? = some (.int .i64 z) := by
          have := congrArg (·[0]?) hz1
          simpa [List.getElem?_take, List.getElem?_drop] using this
        refine ⟨z, ?_, hwf⟩
        rw [← add_add, hc k hk]; exact hck
      let X : Nat → Nat → Int := fun j k => match W.cell? (a.add (j * m + k)) with | some (.int .i64 z) => z | _ => 0
      have hX : ∀ j k, j < len → k < m → W.cell? (a.add (j * m + k)) = some (.int .i64 (X j k)) ∧ inR .i64 (X j k) = true := by
        intro j k hj hk
        obtain ⟨z, h1, h2⟩ := cells j k hj hk
        have : X j k = z := by simp only [X]; rw [h1]
        rw [this]; exact ⟨h1, h2⟩
      have h00 := (hX 0 0 (by omega) hm).1
      have ea : a.add (0 * m + 0) = a := by simp [Addr.add]
      rw [ea] at h00
      obtain ⟨b, off, spot⟩ := a
      have hspot : spot = none ∧ ∃ cs el fr, W.heap[b]? = some (.cells cs el fr) := by
        unfold World.cell? at h00
        split at h00
        · rename_i c el fr hb
          cases spot with
          | none => exact ⟨rfl, c, el, fr, hb⟩
          | some s => simp at h00
        · cases h00
      obtain ⟨rfl, cs, el, fr, hb⟩ := hspot
      have at_ : ∀ j k, j < len → k < m → cs.toList[off + (j * m + k)]? = some (.int .i64 (X j k)) := by
        intro j k hj hk
        have := (hX j k hj hk).1
        have e1 : (Addr.mk b off none).add (j * m + k) = ⟨b, off + (j * m + k), none⟩ := by
          unfold Addr.add
          by_cases hz : j * m + k = 0
          · rw [if_pos hz, hz]; rfl
          · rw [if_neg hz]
        rw [e1] at this
        simp only [World.cell?, hb, Option.isSome_none, Bool.false_eq_true, if_false] at this
        simpa using this
      have hlast : off + len * m ≤ cs.toList.length := by
        have := (List.getElem?_eq_some_iff.1 (at_ (len - 1) (m - 1) (by omega) (by omega))).1
        have e2 : (len - 1) * m + m = len * m := by
          obtain ⟨l, rfl⟩ : ∃ l, len = l + 1 := ⟨len - 1, by omega⟩
          rw [Nat.add_sub_cancel, Nat.succ_mul]
        omega
      refine ⟨len, X, ?_, fun j hj k hk => (hX j k hj hk).2⟩
      simp only [VR]
      refine .inr ⟨b, off, cap, ⟨b, off, none⟩, fun j => (cs.toList.drop (off + j * m)).take m, rfl, hl, fun _ => ⟨rfl, ⟨?_, cs.toList.take off, cs.toList.drop (off + len * m), by rw [List.length_take]; omega, ?_⟩, fun j hj => ?_⟩⟩
      · intro u hu
        obtain ⟨j, hj, hu⟩ := List.mem_flatMap.1 hu
        have hj := List.mem_range.1 hj
        obtain ⟨k, hk⟩ := List.mem_iff_getElem?.1 hu
        have hkm : k < m := by
          have := (List.getElem?_eq_some_iff.1 hk).1
          simp at this; omega
        rw [List.getElem?_take_of_lt hkm, List.getElem?_drop, Nat.add_assoc, at_ j k hj hkm] at hk
        cases hk; rfl
      · rw [hρ b cs el fr hb, flat_cut hlast, ← List.drop_drop]
        rw [List.append_assoc, List.take_append_drop, List.take_append_drop]
      · have hlen : ((cs.toList.drop (off + j * m)).take m).length = m := by
          have : j * m + m ≤ len * m := by
            have := Nat.mul_le_mul_right m (show j + 1 ≤ len from hj)
            rw [Nat.succ_mul] at this; exact this
          simp only [List.length_take, List.length_drop]; omega
        refine ⟨hlen, ints_cell hlen fun k hk => ?_⟩
        rw [List.getElem?_take_of_lt hk, List.getElem?_drop, Nat.add_assoc]
        exact at_ j k hj hk
theorem all_stays {W' : World} {sp' : Nat → Bool} {T : TypeId → Prop} (K : Kids P T) (hz : ∀ {t e : TypeId}, T t → P.underlying t = some (.slice e) → 0 < P.cellsOf e) : ∀ {ts : List TypeId} {vs : List Value} {ds : List (DataW H)} {ps : List MemPlace}, (∀ t ∈ ts, T t) →
    DataW.TrodAll enc P W 0 (fun _ => true) true ts vs ds ps → (∀ p ∈ ps, W.sameAt W' p) → (∀ p ∈ ps, sp' p.block = true) → DataW.TrodAll enc P W' 0 sp' true ts vs ds ps
  | [], [], [], _, _, h, _, _ => h
  | _ :: _, _ :: _, _ :: _, _, hT, ⟨p, q, ⟨n, h1⟩, h2, e⟩, hs, hb => ⟨p, q, ⟨n, DataW.trod_stays K hz (fun h => by cases h) (hT _ (List.mem_cons.2 (.inl rfl))) h1 (fun x hx => hs x (by rw [e]; exact List.mem_append_left _ hx)) (fun x hx => hb x (by rw [e]; exact List.mem_append_left _ hx))⟩,
      all_stays K hz (fun t ht => hT t (List.mem_cons.2 (.inr ht))) h2 (fun x hx => hs x (by rw [e]; exact List.mem_append_right _ hx)) (fun x hx => hb x (by rw [e]; exact List.mem_append_right _ hx)), e⟩
def OldKept (W W' : World) : Prop := W'.os = W.os ∧ W'.output = W.output ∧ ∀ i, i < W.heap.size → W'.heap[i]? = W.heap[i]?
theorem OldKept.but {W' : World} (h : OldKept W W') (may : MemPlace → Prop) : W.keptBut W' may := by
  refine ⟨h.1, h.2.1, fun i hi => ?_⟩
  rw [h.2.2 i hi]
  cases hw : W.heap[i]? with
  | none => trivial
  | some o => cases o <;> first | exact ⟨rfl, rfl, rfl, fun _ _ => rfl⟩ | exact .inr ⟨rfl, rfl⟩ | rfl
theorem OldKept.same {W' : World} (h : OldKept W W') {p : MemPlace} (hp : p.block < W.heap.size) : W.sameAt W' p := by
  cases p with
  | cell b off => show W'.cell? _ = W.cell? _; unfold World.cell?; rw [h.2.2 b hp]
  | map b => exact h.2.2 b hp
theorem OldKept.frozen {W' : World} (h : OldKept W W') {b off : Nat} (hp : b < W.heap.size) : W'.frozen? ⟨b, off, none⟩ = W.frozen? ⟨b, off, none⟩ := by
  unfold World.frozen?
  rw [h.2.2 b hp]
theorem post_kept {W' : World} {f : Func} {s : ChangeSpec} {apart fresh handsOn again : Bool} {args : Array Value} {v : Value} {ds gs : List (DataW H)} {before : List MemPlace} {T : TypeId → Prop} (K : Kids P T) (hz : ∀ {t e : TypeId}, T t → P.underlying t = some (.slice e) → 0 < P.cellsOf e) (hT : ∀ t ∈ f.params.toList, T t)
    (hvars : s.vars = []) (hW : DataW.Whole enc P f.params.toList s.vars apart W args.toList ds gs before) (hk : OldKept W W')
    (hres : ∀ (b : Nat) (sp : Nat → Bool) (hd : Bool), DataW.TrodAll enc P W' b sp hd f.resultTypes.toList (v.resultList f.resultTypes.size) (s.fn H (ds ++ gs)).results [])
    (hsa : (s.fn H (ds ++ gs)).args = ds) (hsv : (s.fn H (ds ++ gs)).vars = gs)
    (hok : ∀ (j : Nat) (t : TypeId) (r : Value), f.resultTypes[j]? = some t → (v.resultList f.resultTypes.size)[j]? = some r → Value.okWide P W' .any 0 t r) :
    s.post enc P f apart fresh handsOn again W args v W' := by
  have hlt := hW.lt
  have hW0 := hW
  obtain ⟨pa, pv, hA, hV, hps, hfz, hn⟩ := hW
  rw [hvars] at hV
  obtain ⟨rfl, rfl⟩ := trodVars_none hV
  rw [List.append_nil] at hps
  subst hps
  have hargs : ∀ sp : Nat → Bool, (∀ p ∈ before, sp p.block = true) → DataW.TrodAll enc P W' 0 sp true f.params.toList args.toList (s.fn H (ds ++ [])).args before := fun sp hs => by
    rw [hsa]; exact all_stays K hz hT hA (fun p hp => hk.same (hlt p hp)) hs
  have hvs : ∀ sp : Nat → Bool, DataW.TrodVars enc P W' sp s.vars (s.fn H (ds ++ [])).vars [] := fun sp => by rw [hvars, hsv]; exact rfl
  have hold : ∀ p ∈ before, (fun b => decide (b < W.heap.size)) p.block = true := fun p hp => by simpa using hlt p hp
  refine ⟨ds, [], before, [], before, [], hW0, hres _ _ _, hargs _ hold, hvs _, hk.but _, fun _ => ?_⟩
  refine ⟨hok, _, _, ([] ++ before) ++ [], ⟨[] ++ before, [], trodAll_append (hargs _ (fun _ _ => rfl)) (hres _ _ _), hvs _, rfl, ?_, ?_⟩, ?_⟩
  · intro b off hp
    have hp' : MemPlace.cell b off ∈ before := by simpa using hp
    rw [hk.frozen (b := b) (off := off) (hlt _ hp')]
    exact hfz b off hp'
  · intro ha
    simpa using hn ha
  · intro p hp _
    simpa using hp
end
end Go.Sx
end
section
set_option maxRecDepth 1000000
namespace Go.Sx
open Go
theorem now_mem {kd : TypeDesc} {kv : Value} : ∀ {l : List MapEntry} {j i : Nat} {v : Value}, Instr.findNow kd kv l j = some (some (i, v)) → ∃ x ∈ l, Instr.sameNow kd kv x.key = some true ∧ v = x.val
  | [], _, _, _, h => by simp [Instr.findNow] at h
  | x :: l, j, i, v, h => by
    unfold Instr.findNow at h
    split at h
    · rename_i hs
      simp only [Option.some.injEq, Prod.mk.injEq] at h
      exact ⟨x, List.mem_cons_self, hs, h.2.symm⟩
    · obtain ⟨y, h1, h2, h3⟩ := now_mem h
      exact ⟨y, List.mem_cons_of_mem _ h1, h2, h3⟩
    · cases h
theorem now_int {kd : TypeDesc} {kv : Value} {n : Int} (h : Instr.sameNow kd kv (.int .i64 n) = some true) : ∃ q, kd = .int q ∧ kv = .int .i64 n := by
  cases kd <;> cases kv <;> simp [Instr.sameNow] at h
  rename_i q k a
  obtain ⟨rfl, rfl⟩ := h
  exact ⟨q, rfl, rfl⟩
theorem now_found {q : IntKind} {n : Int} {u : Value} : ∀ {l : List MapEntry} (_ : ∀ x ∈ l, ∃ m, x.key = .int .i64 m) (_ : ∀ x ∈ l, x.key = .int .i64 n → x.val = u) (j : Nat) (_ : ∃ x ∈ l, x.key = .int .i64 n), ∃ i, Instr.findNow (.int q) (.int .i64 n) l j = some (some (i, u))
  | [], _, _, _, h => by obtain ⟨x, hx, _⟩ := h; cases hx
  | x :: l, h1, h2, j, h3 => by
    obtain ⟨m, hm⟩ := h1 x List.mem_cons_self
    unfold Instr.findNow
    by_cases e : n = m
    · subst e
      rw [hm]
      simp only [Instr.sameNow, if_true, beq_self_eq_true]
      exact ⟨j, by rw [h2 x List.mem_cons_self hm]⟩
    · rw [hm]
      have : (n == m) = false := by simpa using e
      simp only [Instr.sameNow, if_true, this]
      refine now_found (fun y hy => h1 y (List.mem_cons_of_mem _ hy)) (fun y hy => h2 y (List.mem_cons_of_mem _ hy)) (j + 1) ?_
      obtain ⟨y, hy, hk⟩ := h3
      rcases List.mem_cons.1 hy with rfl | hy
      · rw [hm] at hk; cases hk; exact absurd rfl e
      · exact ⟨y, hy, hk⟩
theorem same_found {ms' ms : List MapEntry} (hsub : ∀ x ∈ ms', x ∈ ms) (hk : ∀ x ∈ ms, ∃ n, x.key = .int .i64 n) (hd : ∀ x ∈ ms, ∀ y ∈ ms, x.key = y.key → x.val = y.val) : SameFound ms' ms := by
  intro kd kv i v h
  obtain ⟨x, h1, h2, rfl⟩ := now_mem h
  obtain ⟨n, hn⟩ := hk x (hsub x h1)
  rw [hn] at h2
  obtain ⟨q, rfl, rfl⟩ := now_int h2
  exact now_found hk (fun y hy e => hd y hy x (hsub x h1) (by rw [e, hn])) 0 ⟨x, hsub x h1, hn⟩
theorem five_rel {ms : List MapEntry} {V : Nat → Value} (h1 : ∀ x ∈ ms, ∃ i : Nat, i < 5 ∧ x.key = .int .i64 ((i : Int) + 1) ∧ x.val = V i) (h2 : ∀ i : Nat, i < 5 → ∃ x ∈ ms, x.key = .int .i64 ((i : Int) + 1)) :
    ∃ ms' : List MapEntry, ms'.map (·.key) = [.int .i64 1, .int .i64 2, .int .i64 3, .int .i64 4, .int .i64 5] ∧ ms'.map (·.val) = [V 0, V 1, V 2, V 3, V 4] ∧ SameFound ms' ms := by
  have val : ∀ i : Nat, i < 5 → ∀ x ∈ ms, x.key = .int .i64 ((i : Int) + 1) → x.val = V i := fun i hi x hx e => by
    obtain ⟨j, _, h3, h4⟩ := h1 x hx
    rw [h3] at e
    have : (j : Int) + 1 = (i : Int) + 1 := by injection e
    have : j = i := by omega
    rw [h4, this]
  obtain ⟨x0, m0, k0⟩ := h2 0 (by omega)
  obtain ⟨x1, m1, k1⟩ := h2 1 (by omega)
  obtain ⟨x2, m2, k2⟩ := h2 2 (by omega)
  obtain ⟨x3, m3, k3⟩ := h2 3 (by omega)
  obtain ⟨x4, m4, k4⟩ := h2 4 (by omega)
  refine ⟨[x0, x1, x2, x3, x4], ?_, ?_, same_found (fun x hx => ?_) (fun x hx => ?_) fun x hx y hy e => ?_⟩
  · simp only [List.map_cons, List.map_nil, k0, k1, k2, k3, k4]; rfl
  · simp only [List.map_cons, List.map_nil, val 0 (by omega) x0 m0 k0, val 1 (by omega) x1 m1 k1, val 2 (by omega) x2 m2 k2, val 3 (by omega) x3 m3 k3, val 4 (by omega) x4 m4 k4]
  · simp only [List.mem_cons, List.not_mem_nil, or_false] at hx
    rcases hx with rfl | rfl | rfl | rfl | rfl <;> assumption
  · obtain ⟨i, _, h3, _⟩ := h1 x hx
    exact ⟨_, h3⟩
  · obtain ⟨i, hi, h3, h4⟩ := h1 x hx
    rw [h4, val i hi y hy (by rw [← e, h3])]
end Go.Sx
end
