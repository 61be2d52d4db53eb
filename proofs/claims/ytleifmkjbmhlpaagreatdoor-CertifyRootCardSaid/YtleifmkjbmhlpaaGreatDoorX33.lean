/- CertifyRoot is proved, part 33. -/
import Derived.Test.YtleifmkjbmhlpaaGreatDoorX32
import Derived.Test.YtleifmkjbmhlpaaGreatDoorX20
set_option linter.unusedVariables false
set_option linter.unusedSimpArgs false
set_option linter.unusedSectionVars false
section
set_option maxRecDepth 1000000
namespace Go.Sx
open Go
end Go.Sx
end
section
namespace Go.Sx.Small
inductive Pt where
  | fact
  | closed
  | node (l r : Pt)
def kinds : Pt → List Int
  | .fact => [2]
  | .closed => [3]
  | .node l r => 1 :: (kinds l ++ kinds r)
def facts : Pt → Nat
  | .fact => 1
  | .closed => 0
  | .node l r => facts l + facts r
def opens : Pt → Nat
  | .node l r => 1 + opens l + opens r
  | _ => 0
def height : Pt → Nat
  | .node l r => 1 + max (height l) (height r)
  | _ => 0
def idleP : Pt → Bool
  | .node l r => Nat.beq (facts l + facts r) 0 || (idleP l || idleP r)
  | _ => false
def eat : List Int → Int → Nat → Nat
  | [], _, f => f
  | k :: ks, left, f => bif decide (left > 0) then eat ks (bif decide (k = 1) then left - 1 + 2 else left - 1) (bif decide (k = 2) then f + 1 else f) else f
def idleL : List Int → Bool
  | [] => false
  | k :: ks => (decide (k = 1) && Nat.beq (eat ks 2 0) 0) || idleL ks
def factsL : List Int → Nat
  | [] => 0
  | k :: ks => (bif decide (k = 2) then 1 else 0) + factsL ks
def bits : Nat → Nat → Nat
  | 0, _ => 0
  | c + 1, n => bif Nat.beq n 0 then 0 else 1 + bits c (n / 2)
theorem eat_zero (l : List Int) (f : Nat) : eat l 0 f = f := by cases l <;> simp [eat]
theorem eat_kinds : ∀ (p : Pt) (rest : List Int) (left : Int) (f : Nat), 0 ≤ left → eat (kinds p ++ rest) (left + 1) f = eat rest left (f + facts p) := by
  intro p
  induction p with
  | fact => intro rest left f h; simp [kinds, eat, facts, show (left + 1 > 0) from by omega]
  | closed => intro rest left f h; simp [kinds, eat, facts, show (left + 1 > 0) from by omega]
  | node l r ihl ihr =>
    intro rest left f h
    simp only [kinds, List.cons_append, eat, decide_eq_true (show (left + 1 > 0) from by omega), cond_true, decide_true, show decide ((1 : Int) = 2) = false from rfl, cond_false]
    rw [show left + 1 - 1 + 2 = (left + 1) + 1 by omega, List.append_assoc, ihl _ _ _ (by omega), ihr _ _ _ h, facts, Nat.add_assoc]
theorem idle_kinds : ∀ (p : Pt) (rest : List Int), idleL (kinds p ++ rest) = (idleP p || idleL rest) := by
  intro p
  induction p with
  | fact => intro rest; simp [kinds, idleL, idleP]
  | closed => intro rest; simp [kinds, idleL, idleP]
  | node l r ihl ihr =>
    intro rest
    simp only [kinds, List.cons_append, idleL, decide_true, Bool.true_and, idleP]
    rw [List.append_assoc, ihl, ihr, show (2 : Int) = (1 : Int) + 1 from rfl, eat_kinds l _ 1 0 (by omega), show (1 : Int) = (0 : Int) + 1 from rfl, eat_kinds r _ 0 _ (by omega), eat_zero]
    simp only [Nat.zero_add, Bool.or_assoc]
theorem facts_kinds : ∀ (p : Pt) (rest : List Int), factsL (kinds p ++ rest) = facts p + factsL rest := by
  intro p
  induction p with
  | fact => intro rest; simp [kinds, factsL, facts]
  | closed => intro rest; simp [kinds, factsL, facts]
  | node l r ihl ihr =>
    intro rest
    simp only [kinds, List.cons_append, factsL, facts, show decide ((1 : Int) = 2) = false from rfl, cond_false, Nat.zero_add]
    rw [List.append_assoc, ihl, ihr, Nat.add_assoc]
theorem len_kinds : ∀ p : Pt, (kinds p).length = 2 * opens p + 1 := by
  intro p
  induction p with
  | fact => rfl
  | closed => rfl
  | node l r ihl ihr => simp only [kinds, List.length_cons, List.length_append, ihl, ihr, opens]; omega
theorem opens_le : ∀ p : Pt, idleP p = false → opens p ≤ facts p * height p := by
  intro p
  induction p with
  | fact => intro _; simp [opens]
  | closed => intro _; simp [opens]
  | node l r ihl ihr =>
    intro h
    simp only [idleP, Bool.or_eq_false_iff] at h
    have h0 : facts l + facts r ≠ 0 := fun e => by rw [e] at h; exact absurd h.1 (by decide)
    have h1 := ihl h.2.1
    have h2 := ihr h.2.2
    have a1 : facts l * height l ≤ facts l * max (height l) (height r) := Nat.mul_le_mul_left _ (Nat.le_max_left _ _)
    have a2 : facts r * height r ≤ facts r * max (height l) (height r) := Nat.mul_le_mul_left _ (Nat.le_max_right _ _)
    simp only [opens, facts, height, Nat.mul_add, Nat.mul_one, Nat.add_mul]
    omega
theorem small (p : Pt) (m h : Nat) (h1 : opens p + 1 ≤ m) (h2 : height p ≤ h) (d : Nat) (hd : h ≤ d) :
    (kinds p).length ≤ 2 * m - 1 ∧ (idleL (kinds p) = true ∨ (kinds p).length ≤ max 1 (factsL (kinds p) + 2 * factsL (kinds p) * d)) := by
  have e1 := len_kinds p
  have e2 : factsL (kinds p) = facts p := by have := facts_kinds p []; simpa [factsL] using this
  have e3 : idleL (kinds p) = idleP p := by have := idle_kinds p []; simpa [idleL] using this
  refine ⟨by omega, ?_⟩
  rw [e3, e2, e1]
  cases hi : idleP p with
  | true => exact .inl rfl
  | false =>
    right
    have h3 := opens_le p hi
    by_cases hf : facts p = 0
    · rw [hf] at h3 ⊢
      simp at h3
      rw [h3]; simp
    · have h4 : facts p * height p ≤ facts p * d := Nat.mul_le_mul_left _ (Nat.le_trans h2 hd)
      have : 2 * opens p + 1 ≤ facts p + 2 * facts p * d := by
        rw [Nat.mul_assoc]; omega
      omega
end Go.Sx.Small
end
section
namespace Go.Sx
open Small
structure Piece where
  (k : Int) (x : Fact) (nd : Node)
def pieceAV (p : Piece) : List AV := .int .i64 p.k :: (factAV p.x ++ nodeAV p.nd)
end Go.Sx
end
section
set_option maxRecDepth 1000000
namespace Go.Sx
open Go
end Go.Sx
end
