/- CertifyRoot is proved, part 37. -/
import Derived.Test.YtleifmkjbmhlpaaGreatDoorX36
import Derived.Test.YtleifmkjbmhlpaaGreatDoorX32
import Derived.Test.YtleifmkjbmhlpaaGreatDoorX22
set_option linter.unusedVariables false
set_option linter.unusedSimpArgs false
set_option linter.unusedSectionVars false
section
set_option maxRecDepth 1000000
namespace Go.Sx
open Go Small
end Go.Sx
end
section
set_option maxRecDepth 1000000
namespace Go.Sx
open Go Small
end Go.Sx
end
section
set_option maxRecDepth 1000000
namespace Go.Sx
open Go
theorem place_lt {x y : Fact} (h : ltF x y = true) : placeF x y < 0 ∧ 0 < placeF y x := by
  unfold ltF at h
  simp only [Bool.or_eq_true, Bool.and_eq_true, decide_eq_true_eq] at h
  unfold placeF cmpF orF
  repeat' split <;> omega
theorem small_valid {x : Fact} (h : small x) : validF x = true := by
  obtain ⟨h1, h2, h3, h4, h5, h6, h7, h8, h9, h10, h11⟩ := h
  unfold validF
  simp only [Bool.and_eq_true, decide_eq_true_eq, ge_iff_le]
  refine ⟨⟨⟨⟨⟨⟨⟨⟨⟨?_, ?_⟩, ?_⟩, ?_⟩, ?_⟩, ?_⟩, h7⟩, ?_⟩, ?_⟩, ?_⟩ <;> omega
theorem small_ok {x : Fact} (h : small x) : factOk x = true := by
  obtain ⟨h1, h2, h3, h4, h5, h6, h7, h8, h9, h10, h11⟩ := h
  have hd : 0 ≤ x.d ∧ x.d ≤ 30 := by
    rw [h7]
    obtain ⟨k, hk⟩ : ∃ k : Nat, x.t = (k : Int) := ⟨x.t.toNat, by omega⟩
    have : Int.tdiv x.t 10 = ((k / 10 : Nat) : Int) := by rw [hk]; rfl
    rw [this]; omega
  unfold factOk okI
  simp only [Bool.and_eq_true, decide_eq_true_eq]
  omega
theorem sortedTo_mk {F : Nat → Fact} : ∀ {k : Nat}, (∀ i, i + 1 ≤ k → ltF (F i) (F (i + 1)) = true) → sortedTo F k = true
  | 0, _ => rfl
  | k + 1, h => by
    have := (place_lt (h k (Nat.le_refl _))).2
    show (!decide (placeF (F (k + 1)) (F k) < 0) && sortedTo F k) = true
    rw [sortedTo_mk fun i hi => h i (by omega), decide_eq_false (by omega)]; rfl
theorem made_prove (X : Nat → Nat → Int) {i : Nat} (hi : i ≤ 40) : proveOk (madeL X i).length (getL (madeL X i)) = true := by
  have hlen := madeL_len X i
  have hs := madeL_small X i
  have ho := madeL_ord X i
  generalize madeL X i = l at *
  have hv : validsF l.length (getL l) = true := by
    unfold validsF allOk
    rw [decide_eq_true (by omega), Bool.and_true, Bool.and_eq_true]
    refine ⟨List.all_eq_true.2 fun k hk => ?_, sortedTo_mk fun j hj => ordL_get l j ho (by omega)⟩
    have hk := List.mem_range.1 hk
    unfold okAt
    rw [small_valid (hs _ (getL_mem hk)), Bool.true_and]
    cases k with
    | zero => rfl
    | succ k =>
      have := (place_lt (ordL_get l k ho hk)).1
      show (!decide (placeF (getL l k) (getL l (k + 1)) ≥ 0)) = true
      rw [decide_eq_false (by omega)]; rfl
  unfold proveOk
  rw [hv, Bool.true_and]
  cases h0 : Nat.beq l.length 0 with
  | true => rfl
  | false =>
    have : l.length ≠ 0 := fun e => by rw [e] at h0; cases h0
    rw [Bool.false_or]
    simp only [Bool.and_eq_true, growOk]
    refine ⟨⟨⟨Nat.ble_eq_true_of_le (by omega), Nat.ble_eq_true_of_le (by show 2 * l.length ≤ 1048576; omega)⟩, ?_⟩, Nat.ble_eq_true_of_le (by omega)⟩
    exact List.all_eq_true.2 fun k hk => small_ok (hs _ (getL_mem (List.mem_range.1 hk)))
end Go.Sx
end
section
set_option maxRecDepth 1000000
namespace Go.Sx
open Go Small
open Classical in
theorem hsIs_mk {b0 b1 b3 b13 : ABlk} (h0 : b0 = Hs.get 0) (h1 : b1 = Hs.get 1) (h3 : b3 = Hs.get 3) (h13 : b13 = Hs.get 13) : hsIs b0 b1 b3 b13 = true := by
  unfold hsIs
  exact decide_eq_true ⟨h0, h1, h3, h13⟩
end Go.Sx
end
