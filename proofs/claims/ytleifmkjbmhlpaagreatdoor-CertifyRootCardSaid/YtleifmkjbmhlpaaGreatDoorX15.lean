/- CertifyRoot is proved, part 15. -/
import Derived.Test.YtleifmkjbmhlpaaGreatDoorX14
set_option linter.unusedVariables false
set_option linter.unusedSimpArgs false
set_option linter.unusedSectionVars false
section
set_option maxRecDepth 1000000
namespace Go.Sx
open Go
def constAVs : List AV := Sha.consts.map fun n => .int .u32 (Int.ofNat n)
def vAV (v : Nat → Int) : List AV := [.int .u32 (v 0), .int .u32 (v 1), .int .u32 (v 2), .int .u32 (v 3), .int .u32 (v 4), .int .u32 (v 5), .int .u32 (v 6), .int .u32 (v 7)]
noncomputable def hAdd (v : Nat → Int) : AH := { n := 13, t := Tr.ofList [(2, .cells constAVs .ro), (12, .cells (vAV v) (.ty 204))] }
noncomputable def h120 (W v u : Nat → Int) : AH := { n := 15, t := Tr.ofList [(2, .cells constAVs .ro), (12, .cells (vAV v) (.ty 204)), (13, .rows 64 1 (wRow W) (.ty 236)), (14, .cells (vAV u) (.ty 204))] }
noncomputable def s120 (W v : Nat → Int) (i : Int × (Nat → Int)) : St := { t := Tr.ofList [(0, .ptr 12 0 0 0), (4, .ptr 13 0 0 0), (5, .ptr 14 0 0 0), (18, .agg constAVs), (19, .int .i64 i.1)], nt := 97, H := h120 W v i.2, df := [] }
noncomputable def e120 (v u : Nat → Int) : GE := .one (.x 0 { t := Tr.ofList [(0, .ptr 12 0 0 0), (5, .ptr 14 0 0 0)], nt := 97, H := { n := 15, t := Tr.ofList [(2, .cells constAVs .ro), (12, .cells (vAV v) (.ty 204)), (14, .cells (vAV u) (.ty 204))] }, df := [] })
def constI (i : Nat) : Int := pickI constAVs i
def t1I (k w : Int) (u : Nat → Int) : Int := Int.emod (Int.emod (Int.emod (Int.emod (u (7 : Nat) + Int.ofNat (mix3 (Int.toNat (u (4 : Nat))) (6 : Nat) (11 : Nat) (25 : Nat))) (4294967296 : Int) + Int.emod (Int.ofNat (Nat.xor (Int.toNat (Int.emod (Int.emod (Int.ofNat (Nat.land (Int.toNat (Int.emod (u (4 : Nat)) (4294967296 : Int))) (Int.toNat (Int.emod (u (5 : Nat)) (4294967296 : Int))))) (4294967296 : Int)) (4294967296 : Int))) (Int.toNat (Int.emod (Int.emod (Int.ofNat (Nat.land (Int.toNat (Int.emod (Int.emod (Int.ofNat (Nat.xor (4294967295 : Nat) (Int.toNat (Int.emod (u (4 : Nat)) (4294967296 : Int))))) (4294967296 : Int)) (4294967296 : Int))) (Int.toNat (Int.emod (u (6 : Nat)) (4294967296 : Int))))) (4294967296 : Int)) (4294967296 : Int))))) (4294967296 : Int)) (4294967296 : Int) + k) (4294967296 : Int) + w) (4294967296 : Int)
def t2I (u : Nat → Int) : Int := Int.emod (Int.ofNat (mix3 (Int.toNat (u (0 : Nat))) (2 : Nat) (13 : Nat) (22 : Nat)) + Int.emod (Int.ofNat (Nat.xor (Int.toNat (Int.emod (Int.emod (Int.ofNat (Nat.xor (Int.toNat (Int.emod (Int.emod (Int.ofNat (Nat.land (Int.toNat (Int.emod (u (0 : Nat)) (4294967296 : Int))) (Int.toNat (Int.emod (u (1 : Nat)) (4294967296 : Int))))) (4294967296 : Int)) (4294967296 : Int))) (Int.toNat (Int.emod (Int.emod (Int.ofNat (Nat.land (Int.toNat (Int.emod (u (0 : Nat)) (4294967296 : Int))) (Int.toNat (Int.emod (u (2 : Nat)) (4294967296 : Int))))) (4294967296 : Int)) (4294967296 : Int))))) (4294967296 : Int)) (4294967296 : Int))) (Int.toNat (Int.emod (Int.emod (Int.ofNat (Nat.land (Int.toNat (Int.emod (u (1 : Nat)) (4294967296 : Int))) (Int.toNat (Int.emod (u (2 : Nat)) (4294967296 : Int))))) (4294967296 : Int)) (4294967296 : Int))))) (4294967296 : Int)) (4294967296 : Int)
def rndI (k w : Int) (u : Nat → Int) (j : Nat) : Int := match j with
  | 0 => Int.emod (t1I k w u + t2I u) 4294967296
  | 1 => u 0
  | 2 => u 1
  | 3 => u 2
  | 4 => Int.emod (u 3 + t1I k w u) 4294967296
  | 5 => u 4
  | 6 => u 5
  | 7 => u 6
  | _ => 0
def rndsI (W v : Nat → Int) : Nat → Nat → Int
  | 0 => v
  | k + 1 => rndI (constI k) (W k) (rndsI W v k)
def addI (b v : Nat → Int) (j : Nat) : Int := Int.emod (v j + rndsI (schedI b) v 64 j) 4294967296
def isW (v : Nat → Int) : Prop := ∀ j, j < 8 → 0 ≤ v j ∧ v j < 4294967296
theorem add_step (W v u' : Nat → Int) (nxt : Int → (Nat → Int) → (Nat → Int)) (i : Int) (u : Nat → Int) (Q : Prop) : (kr [kMixed] [] 120 3001 15 (s120 W v) (fun _ => e120 v u') (fun i => (i.1 + 1, nxt i.1 i.2)) Q (i, u)) = (let zz1 := (Int.emod (Int.emod (Int.emod (u 7 + Int.ofNat (mix3 (Int.toNat (u 4)) 6 11 25)) 4294967296 + Int.emod (Int.ofNat (Nat.xor (Int.toNat (Int.emod (Int.emod (Int.ofNat (Nat.land (Int.toNat (Int.emod (u 4) 4294967296)) (Int.toNat (Int.emod (u 5) 4294967296)))) 4294967296) 4294967296)) (Int.toNat (Int.emod (Int.emod (Int.ofNat (Nat.land (Int.toNat (Int.emod (Int.emod (Int.ofNat (Nat.xor 4294967295 (Int.toNat (Int.emod (u 4) 4294967296)))) 4294967296) 4294967296)) (Int.toNat (Int.emod (u 6) 4294967296)))) 4294967296) 4294967296)))) 4294967296) 4294967296 + pickI constAVs (Int.toNat i)) 4294967296 + W (Int.toNat i)); (Cond (decide (i < 64)) (Asks (decide (0 ≤ i) &&
 decide (i < 64)) (Asks (decide (0 ≤ u 4) && decide (u 4 < 4294967296) && true && true && true) (Asks (decide (u 7 = u 7)) (Asks (decide (u 5 = u 5)) (Asks (decide (u 6 = u 6)) (Asks (decide (0 ≤ i) && decide (i < 64)) (Asks (decide (Int.toNat i < 64)) (Asks (decide (Int.toNat i < 64)) (Asks (decide (W (Int.toNat i) = W (Int.toNat i))) (Asks (decide (0 ≤ u 0) && decide (u 0 < 4294967296) && true && true && true) (Asks (decide (u 1 = u 1)) (Asks (decide (u 2 = u 2)) (Asks (decide (u 1 = u 1)) (Asks (decide (u 2 = u 2)) (Asks (inR .i64 (i + 1)) (EqI (Int.emod (Int.emod zz1 4294967296 + Int.emod (Int.ofNat (mix3 (Int.toNat (u 0)) 2 13 22) + Int.emod (Int.ofNat (Nat.xor (Int.toNat (Int.emod (Int.emod (Int.ofNat (Nat.xor (Int.toNat (Int.emod (Int.emod (Int.ofNat (Nat.land (Int.toNat (Int.emod (u 0) 4294967296)) (Int.toNat (Int.emod (u 1) 4294967296)))) 4294967296) 4294967296)) (Int.toNat
 (Int.emod (Int.emod (Int.ofNat (Nat.land (Int.toNat (Int.emod (u 0) 4294967296)) (Int.toNat (Int.emod (u 2) 4294967296)))) 4294967296) 4294967296)))) 4294967296) 4294967296)) (Int.toNat (Int.emod (Int.emod (Int.ofNat (Nat.land (Int.toNat (Int.emod (u 1) 4294967296)) (Int.toNat (Int.emod (u 2) 4294967296)))) 4294967296) 4294967296)))) 4294967296) 4294967296) 4294967296) (nxt i u 0) (EqI (u 0) (nxt i u 1) (EqI (u 1) (nxt i u 2) (EqI (u 2) (nxt i u 3) (EqI (Int.emod (u 3 + Int.emod zz1 4294967296) 4294967296) (nxt i u 4) (EqI (u 4) (nxt i u 5) (EqI (u 5) (nxt i u 6) (EqI (u 6) (nxt i u 7) (RowsLe 64 (wRow W) (wRow W) ∧ EqI (v 0) (v 0) (EqI (v 1) (v 1) (EqI (v 2) (v 2) (EqI (v 3) (v 3) (EqI (v 4) (v 4) (EqI (v 5) (v 5) (EqI (v 6) (v 6) (EqI (v 7) (v 7) (EqI (i + 1) (i + 1) Q)))))))))))))))))))))))))))))))) (EqI (u 0) (u' 0) (EqI (u 1) (u' 1) (EqI (u 2) (u' 2) (EqI (u 3) (u' 3) (EqI (u 4) (u'
 4) (EqI (u 5) (u' 5) (EqI (u 6) (u' 6) (EqI (u 7) (u' 7) (EqI (v 0) (v 0) (EqI (v 1) (v 1) (EqI (v 2) (v 2) (EqI (v 3) (v 3) (EqI (v 4) (v 4) (EqI (v 5) (v 5) (EqI (v 6) (v 6) (EqI (v 7) (v 7) True)))))))))))))))))) := by kernel_rfl
theorem add_vc (b v u' v' : Nat → Int) (Q : Prop) : (kbody [kSched] (lamT PP II [(3001, 15, s120 (schedI b) v (0, v), e120 v u')]) 1000 120 [.ptr 12 0 0 0, blkAV b] (hAdd v) (fun a H => ResLq 13 a H (.tup []) (hAdd v') Q) (fun _ _ => False)) = (Asks (bytesOk 64 (bRow b)) (LoopAt PP II false (loopOf II 120 3001) 15 (s120 (schedI b) v (0, v)) (e120 v u') ∧ EqI (v 0) (v 0) (EqI (v 1) (v 1) (EqI (v 2) (v 2) (EqI (v 3) (v 3) (EqI (v 4) (v 4) (EqI (v 5) (v 5) (EqI (v 6) (v 6) (EqI (v 7) (v 7) ((RowsLe 64 (cutRow [AV.int .u32 (schedI (byteOf (bRow b)) 0), AV.int .u32 (schedI (byteOf (bRow b)) 1), AV.int .u32 (schedI (byteOf (bRow b)) 2), AV.int .u32 (schedI (byteOf (bRow b)) 3), AV.int .u32 (schedI (byteOf (bRow b)) 4), AV.int .u32 (schedI (byteOf (bRow b)) 5), AV.int .u32 (schedI (byteOf (bRow b)) 6), AV.int .u32 (schedI (byteOf (bRow b)) 7), AV.int .u32 (schedI (byteOf (bRow b)) 8), AV.int
 .u32 (schedI (byteOf (bRow b)) 9), AV.int .u32 (schedI (byteOf (bRow b)) 10), AV.int .u32 (schedI (byteOf (bRow b)) 11), AV.int .u32 (schedI (byteOf (bRow b)) 12), AV.int .u32 (schedI (byteOf (bRow b)) 13), AV.int .u32 (schedI (byteOf (bRow b)) 14), AV.int .u32 (schedI (byteOf (bRow b)) 15), AV.int .u32 (schedI (byteOf (bRow b)) 16), AV.int .u32 (schedI (byteOf (bRow b)) 17), AV.int .u32 (schedI (byteOf (bRow b)) 18), AV.int .u32 (schedI (byteOf (bRow b)) 19), AV.int .u32 (schedI (byteOf (bRow b)) 20), AV.int .u32 (schedI (byteOf (bRow b)) 21), AV.int .u32 (schedI (byteOf (bRow b)) 22), AV.int .u32 (schedI (byteOf (bRow b)) 23), AV.int .u32 (schedI (byteOf (bRow b)) 24), AV.int .u32 (schedI (byteOf (bRow b)) 25), AV.int .u32 (schedI (byteOf (bRow b)) 26), AV.int .u32 (schedI (byteOf (bRow b)) 27), AV.int .u32 (schedI (byteOf (bRow b)) 28), AV.int .u32 (schedI (byteOf (bRow b)) 29),
 AV.int .u32 (schedI (byteOf (bRow b)) 30), AV.int .u32 (schedI (byteOf (bRow b)) 31), AV.int .u32 (schedI (byteOf (bRow b)) 32), AV.int .u32 (schedI (byteOf (bRow b)) 33), AV.int .u32 (schedI (byteOf (bRow b)) 34), AV.int .u32 (schedI (byteOf (bRow b)) 35), AV.int .u32 (schedI (byteOf (bRow b)) 36), AV.int .u32 (schedI (byteOf (bRow b)) 37), AV.int .u32 (schedI (byteOf (bRow b)) 38), AV.int .u32 (schedI (byteOf (bRow b)) 39), AV.int .u32 (schedI (byteOf (bRow b)) 40), AV.int .u32 (schedI (byteOf (bRow b)) 41), AV.int .u32 (schedI (byteOf (bRow b)) 42), AV.int .u32 (schedI (byteOf (bRow b)) 43), AV.int .u32 (schedI (byteOf (bRow b)) 44), AV.int .u32 (schedI (byteOf (bRow b)) 45), AV.int .u32 (schedI (byteOf (bRow b)) 46), AV.int .u32 (schedI (byteOf (bRow b)) 47), AV.int .u32 (schedI (byteOf (bRow b)) 48), AV.int .u32 (schedI (byteOf (bRow b)) 49), AV.int .u32 (schedI (byteOf (bRow b))
 50), AV.int .u32 (schedI (byteOf (bRow b)) 51), AV.int .u32 (schedI (byteOf (bRow b)) 52), AV.int .u32 (schedI (byteOf (bRow b)) 53), AV.int .u32 (schedI (byteOf (bRow b)) 54), AV.int .u32 (schedI (byteOf (bRow b)) 55), AV.int .u32 (schedI (byteOf (bRow b)) 56), AV.int .u32 (schedI (byteOf (bRow b)) 57), AV.int .u32 (schedI (byteOf (bRow b)) 58), AV.int .u32 (schedI (byteOf (bRow b)) 59), AV.int .u32 (schedI (byteOf (bRow b)) 60), AV.int .u32 (schedI (byteOf (bRow b)) 61), AV.int .u32 (schedI (byteOf (bRow b)) 62), AV.int .u32 (schedI (byteOf (bRow b)) 63)] 1) fun j => [AV.int .u32 (schedI b j)]) ∧ EqI (v 0) (v 0) (EqI (v 1) (v 1) (EqI (v 2) (v 2) (EqI (v 3) (v 3) (EqI (v 4) (v 4) (EqI (v 5) (v 5) (EqI (v 6) (v 6) (EqI (v 7) (v 7) (Asks (inR .i64 1) (Asks (inR .i64 2) (Asks (inR .i64 3) (Asks (inR .i64 4) (Asks (inR .i64 5) (Asks (inR .i64 6) (Asks (inR .i64 7) (Asks (inR .i64 8) (EqI
 (Int.emod (v 0 + u' 0) 4294967296) (v' 0) (EqI (Int.emod (v 1 + u' 1) 4294967296) (v' 1) (EqI (Int.emod (v 2 + u' 2) 4294967296) (v' 2) (EqI (Int.emod (v 3 + u' 3) 4294967296) (v' 3) (EqI (Int.emod (v 4 + u' 4) 4294967296) (v' 4) (EqI (Int.emod (v 5 + u' 5) 4294967296) (v' 5) (EqI (Int.emod (v 6 + u' 6) 4294967296) (v' 6) (EqI (Int.emod (v 7 + u' 7) 4294967296) (v' 7) Q))))))))))))))))))))))))))))))))) := by kernel_rfl
theorem emodW (x : Int) : 0 ≤ Int.emod x 4294967296 ∧ Int.emod x 4294967296 < 4294967296 :=
  ⟨Int.emod_nonneg _ (by decide), Int.emod_lt_of_pos _ (by decide)⟩
theorem rndI_w {k w : Int} {u : Nat → Int} (h : isW u) : isW (rndI k w u) := by
  intro j hj
  match j, hj with
  | 0, _ => exact emodW _
  | 1, _ => exact h 0 (by omega)
  | 2, _ => exact h 1 (by omega)
  | 3, _ => exact h 2 (by omega)
  | 4, _ => exact emodW _
  | 5, _ => exact h 4 (by omega)
  | 6, _ => exact h 5 (by omega)
  | 7, _ => exact h 6 (by omega)
  | k + 8, hk => omega
theorem rndsI_w {W v : Nat → Int} (h : isW v) : ∀ k, isW (rndsI W v k)
  | 0 => h
  | k + 1 => rndI_w (rndsI_w h k)
theorem addI_w {b v : Nat → Int} : isW (addI b v) := fun _ _ => emodW _
theorem rnd0 (k w : Int) (u : Nat → Int) : rndI k w u 0 = Int.emod (t1I k w u + t2I u) 4294967296 := rfl
theorem rnd4 (k w : Int) (u : Nat → Int) : rndI k w u 4 = Int.emod (u 3 + t1I k w u) 4294967296 := rfl
theorem rnd1 (k w : Int) (u : Nat → Int) : rndI k w u 1 = u 0 := rfl
theorem rnd2 (k w : Int) (u : Nat → Int) : rndI k w u 2 = u 1 := rfl
theorem rnd3 (k w : Int) (u : Nat → Int) : rndI k w u 3 = u 2 := rfl
theorem rnd5 (k w : Int) (u : Nat → Int) : rndI k w u 5 = u 4 := rfl
theorem rnd6 (k w : Int) (u : Nat → Int) : rndI k w u 6 = u 5 := rfl
theorem rnd7 (k w : Int) (u : Nat → Int) : rndI k w u 7 = u 6 := rfl
theorem add_at (b v : Nat → Int) (j : Nat) : Int.emod (v j + rndsI (schedI b) v 64 j) 4294967296 = addI b v j := rfl
theorem mixAsk {x : Int} (h : 0 ≤ x ∧ x < 4294967296) : (decide (0 ≤ x) && decide (x < 4294967296) && true && true && true) = true := by
  simp only [Bool.and_true, Bool.and_eq_true, decide_eq_true_eq]; exact h
theorem add_loop {W v : Nat → Int} (hv : isW v) : LoopAt PP II false (loopOf II 120 3001) 15 (s120 W v (0, v)) (e120 v (rndsI W v 64)) :=
  LoopAt.of (ι := Int × (Nat → Int)) hII [kMixed] (lamT_ok PP II []) 1000 15 (fun i => ∃ k : Nat, k ≤ 64 ∧ i.1 = (k : Int) ∧ i.2 = rndsI W v k) (s120 W v) (fun _ => e120 v (rndsI W v 64)) (fun i => (64 - i.1).toNat) (fun i => (i.1 + 1, rndI (constI i.1.toNat) (W i.1.toNat) i.2)) (0, v) rfl
    ⟨0, by omega, rfl, rfl⟩ fun i hi => by
    obtain ⟨i, u⟩ := i
    obtain ⟨k, hk, h1, h2⟩ := hi
    change i = (k : Int) at h1
    change u = rndsI W v k at h2
    have hu : isW u := by rw [h2]; exact rndsI_w hv k
    refine (add_step W v (rndsI W v 64) (fun i u => rndI (constI i.toNat) (W i.toNat) u) i u _).mpr (Cond.mk (fun h => ?_) fun h => ?_)
    · simp only [decide_eq_true_eq] at h
      have hk' : k < 64 := by omega
      have ni : Int.toNat i = k := by omega
      have m0 := mixAsk (hu 0 (by omega))
      have m4 := mixAsk (hu 4 (by omega))
      have hin : (decide ((0 : Int) ≤ i) && decide (i < (64 : Int))) = true := by simp only [Bool.and_eq_true, decide_eq_true_eq]; omega
      have hin2 : decide (Int.toNat i < 64) = true := by simp only [decide_eq_true_eq]; omega
      have hr : inR .i64 (i + 1) = true := inR_small (by omega) (by omega)
      have hself : ∀ x : Int, decide (x = x) = true := fun x => decide_eq_true rfl
      repeat' (first | with_reducible exact trivial | with_reducible rfl | with_reducible exact RowsLe.same fun _ _ => wRow_le _ _ _ | with_reducible exact RowsLe.same fun _ _ => bRow_le _ _ _ | with_reducible refine EqN.mk ?_ ?_ | with_reducible refine EqI.mk ?_ ?_ | with_reducible refine EqB.mk ?_ ?_ | with_reducible refine Asks.mk ?_ ?_ | with_reducible refine And.intro ?_ ?_)
      all_goals first | with_reducible exact hin | with_reducible exact hin2 | with_reducible exact m0 | with_reducible exact m4 | with_reducible exact hself _ | with_reducible exact hr | (rw [rnd0, t1I, t2I, constI]; done) | (rw [rnd4, t1I, constI]; done) | with_reducible exact (rnd1 _ _ _).symm | with_reducible exact (rnd2 _ _ _).symm | with_reducible exact (rnd3 _ _ _).symm | with_reducible exact (rnd5 _ _ _).symm | with_reducible exact (rnd6 _ _ _).symm | with_reducible exact (rnd7 _ _ _).symm | skip
      · refine ⟨k + 1, by omega, by show i + 1 = _; omega, ?_⟩
        show rndI _ _ u = _
        rw [ni, h2]; rfl
      · show (64 - (i + 1)).toNat < (64 - i).toNat; omega
    · simp only [decide_eq_false_iff_not] at h
      have : k = 64 := by omega
      subst this
      rw [h2]
      repeat' (first | with_reducible exact trivial | with_reducible rfl | with_reducible exact RowsLe.same fun _ _ => wRow_le _ _ _ | with_reducible exact RowsLe.same fun _ _ => bRow_le _ _ _ | with_reducible refine EqN.mk ?_ ?_ | with_reducible refine EqI.mk ?_ ?_ | with_reducible refine EqB.mk ?_ ?_ | with_reducible refine Asks.mk ?_ ?_ | with_reducible refine And.intro ?_ ?_)
theorem cutW (W : Nat → Int) : RowsLe 64 (cutRow (wCells W) 1) (wRow W) := by
  intro i hi σ
  have : cutRow (wCells W) 1 i = [AV.int .u32 (W i)] := by
    unfold cutRow wCells
    rw [Nat.mul_one, ← List.map_drop, ← List.map_take]
    have : ((List.range 64).drop i).take 1 = [i] := by
      rw [List.drop_eq_getElem_cons (by simpa using hi)]
      simp
    rw [this]; rfl
  rw [this]
  exact ⟨⟨rfl, rfl⟩, trivial⟩
theorem bytesOk_of {b : Nat → Int} (h : isB b) : bytesOk 64 (bRow b) = true := List.all_eq_true.2 fun i hi => by
  have := h i (List.mem_range.1 hi)
  show (decide _ && decide _) = true
  simp only [Bool.and_eq_true, decide_eq_true_eq]; exact this
theorem add_ok {b v : Nat → Int} (hb : isB b) (hv : isW v) : CallGives PP II 120 [.ptr 12 0 0 0, blkAV b] (hAdd v) (.ret (.tup []) (hAdd (addI b v))) := by
  refine CallGives.of_heap hII [kSched] (lamT_ok PP II [(3001, 15, s120 (schedI b) v (0, v), e120 v (rndsI (schedI b) v 64))]) 1000 ((add_vc b v (rndsI (schedI b) v 64) (addI b v) True).mpr ?_)
  repeat' (first | with_reducible exact trivial | with_reducible rfl | with_reducible exact RowsLe.same fun _ _ => wRow_le _ _ _ | with_reducible exact RowsLe.same fun _ _ => bRow_le _ _ _ | with_reducible refine EqN.mk ?_ ?_ | with_reducible refine EqI.mk ?_ ?_ | with_reducible refine EqB.mk ?_ ?_ | with_reducible refine Asks.mk ?_ ?_ | with_reducible refine And.intro ?_ ?_)
  all_goals first | with_reducible exact bytesOk_of hb | with_reducible exact add_loop hv | with_reducible exact add_at _ _ _ | exact inR_small (by omega) (by omega) | exact cutW (schedI b)
end Go.Sx
end
section
set_option maxRecDepth 1000000
namespace Go.Sx
open Go
theorem rrot_vc (x k : Int) (Q : AV → Prop) : (kb [] [] 125 [.int .u32 x, .int .i64 k] Q) = (Asks (decide (0 ≤ k)) (Asks (inR .i64 (32 - k)) (Asks (decide (0 ≤ 32 - k) && true) (Q (AV.int .u32 (Int.emod (Int.ofNat (Nat.lor (Int.toNat (Int.emod (Int.fdiv x (Int.pow 2 (if Int.toNat k ≤ 32 then Int.toNat k else 32))) 4294967296)) (Int.toNat (Int.emod (Int.emod (x * Int.pow 2 (if Int.toNat (32 - k) ≤ 32 then Int.toNat (32 - k) else 32)) 4294967296) 4294967296)))) 4294967296)))))) := by kernel_rfl
theorem rrot_ok {x n : Nat} (hx : x < 4294967296) (h1 : 1 ≤ n) (h2 : n ≤ 31) : CallGives PP II 125 [.int .u32 x, .int .i64 (n : Int)] (AH.blank 12) (.ret (.int .u32 (Sha.rot x n)) (AH.blank 12)) := by
  refine of_kb (ks := []) (T := []) (fun _ => ⟨rfl, rfl⟩) ((rrot_vc x (n : Int) _).mpr ?_)
  have e1 : Int.toNat ((32 : Int) - (n : Int)) = 32 - n := by omega
  simp only [e1, Int.toNat_natCast]
  rw [if_pos (by omega), if_pos (by omega)]
  have p1 : Int.pow 2 (32 - n) = ((2 ^ (32 - n) : Nat) : Int) := by show (2 : Int) ^ _ = _; simp
  have p2 : Int.pow 2 n = ((2 ^ n : Nat) : Int) := by show (2 : Int) ^ _ = _; simp
  rw [p1, p2]
  have q1 : Int.toNat (Int.emod (Int.emod ((x : Int) * ((2 ^ (32 - n) : Nat) : Int)) 4294967296) 4294967296) = (x * 2 ^ (32 - n)) % 4294967296 := by
    rw [← Int.natCast_mul]
    show (((x * 2 ^ (32 - n) : Nat) : Int) % 4294967296 % 4294967296).toNat = _
    generalize x * 2 ^ (32 - n) = p
    omega
  have q2 : Int.toNat (Int.emod (Int.fdiv (x : Int) ((2 ^ n : Nat) : Int)) 4294967296) = x / 2 ^ n := by
    rw [Int.fdiv_eq_ediv_of_nonneg _ (Int.natCast_nonneg _), ← Int.natCast_ediv]
    have : x / 2 ^ n ≤ x := Nat.div_le_self _ _
    show (((x / 2 ^ n : Nat) : Int) % 4294967296).toNat = _
    generalize x / 2 ^ n = p at *
    omega
  rw [q1, q2]
  refine Asks.mk (by simp) (Asks.mk (inR_small (by omega) (by omega)) (Asks.mk (by simp; omega) ?_))
  congr 1
  have e2 : Nat.lor (x / 2 ^ n) ((x * 2 ^ (32 - n)) % 4294967296) = Sha.rot x n := by
    show x / 2 ^ n ||| (x * 2 ^ (32 - n)) % 4294967296 = Nat.lor (x >>> n) ((x <<< (32 - n)) % 4294967296)
    rw [Nat.shiftRight_eq_div_pow, Nat.shiftLeft_eq]
    rfl
  rw [e2]
  have : Sha.rot x n < 4294967296 := rot_lt hx
  exact Int.emod_eq_of_lt (by show (0 : Int) ≤ (Sha.rot x n : Int); omega) (by show (Sha.rot x n : Int) < _; omega)
noncomputable def kRRot : Known PP II := Known.pure 125
  (fun X args kn => match args with
    | [.int .u32 x, .int .i64 k] => X.assert (decide (0 ≤ x) && decide (x < 4294967296) && decide (1 ≤ k) && decide (k ≤ 31)) (kn (.int .u32 (Sha.rot x.toNat k.toNat)))
    | _ => X.fail)
  fun X sem hX args kn h => by
    split at h
    · rename_i x k
      obtain ⟨h1, h2⟩ := hX.assert _ _ h
      simp only [Bool.and_eq_true, decide_eq_true_eq] at h1
      refine ⟨_, h2, fun _ => rfl, fun _ => rfl, ?_⟩
      have := rrot_ok (x := x.toNat) (n := k.toNat) (by omega) (by omega) (by omega)
      rwa [Int.toNat_of_nonneg h1.1.1.1, Int.toNat_of_nonneg (by omega)] at this
    · exact absurd h hX.fail
theorem consts_vc (Q : AV → Prop) : (kb [] [] 126 [] Q) = (Q (AV.fslice 64 1 fun i => List.take 1 (List.drop (0 + i * 1) [AV.int .u32 1116352408, AV.int .u32 1899447441, AV.int .u32 3049323471, AV.int .u32 3921009573, AV.int .u32 961987163, AV.int .u32 1508970993, AV.int .u32 2453635748, AV.int .u32 2870763221, AV.int .u32 3624381080, AV.int .u32 310598401, AV.int .u32 607225278, AV.int .u32 1426881987, AV.int .u32 1925078388, AV.int .u32 2162078206, AV.int .u32 2614888103, AV.int .u32 3248222580, AV.int .u32 3835390401, AV.int .u32 4022224774, AV.int .u32 264347078, AV.int .u32 604807628, AV.int .u32 770255983, AV.int .u32 1249150122, AV.int .u32 1555081692, AV.int .u32 1996064986, AV.int .u32 2554220882, AV.int .u32 2821834349, AV.int .u32 2952996808, AV.int .u32 3210313671, AV.int .u32 3336571891, AV.int .u32 3584528711, AV.int .u32 113926993, AV.int .u32 338241895, AV.int .u32
 666307205, AV.int .u32 773529912, AV.int .u32 1294757372, AV.int .u32 1396182291, AV.int .u32 1695183700, AV.int .u32 1986661051, AV.int .u32 2177026350, AV.int .u32 2456956037, AV.int .u32 2730485921, AV.int .u32 2820302411, AV.int .u32 3259730800, AV.int .u32 3345764771, AV.int .u32 3516065817, AV.int .u32 3600352804, AV.int .u32 4094571909, AV.int .u32 275423344, AV.int .u32 430227734, AV.int .u32 506948616, AV.int .u32 659060556, AV.int .u32 883997877, AV.int .u32 958139571, AV.int .u32 1322822218, AV.int .u32 1537002063, AV.int .u32 1747873779, AV.int .u32 1955562222, AV.int .u32 2024104815, AV.int .u32 2227730452, AV.int .u32 2361852424, AV.int .u32 2428436474, AV.int .u32 2756734187, AV.int .u32 3204031479, AV.int .u32 3329325298]))) := by kernel_rfl
theorem consts_cut : RowsLe 64 (cutRow constAVs 1) (wRow constI) := by
  have e : constAVs = wCells constI := by kernel_rfl
  rw [e]
  exact cutW constI
theorem constAVs_all (σ : Nat → Nat) : ∀ a ∈ constAVs, AV.le σ a a := fun a ha => by
  unfold constAVs at ha
  obtain ⟨x, _, rfl⟩ := List.mem_map.1 ha
  exact ⟨rfl, rfl⟩
theorem AVs.le_of_all {σ : Nat → Nat} : ∀ {l : List AV}, (∀ a ∈ l, AV.le σ a a) → AVs.le σ l l
  | [], _ => trivial
  | a :: _, h => ⟨h a (List.mem_cons_self ..), AVs.le_of_all fun b hb => h b (List.mem_cons_of_mem _ hb)⟩
theorem consts_ok : CallGives PP II 126 [] (AH.blank 12) (.ret (.fslice 64 1 (wRow constI)) (AH.blank 12)) := by
  have h : CallGives PP II 126 [] (AH.blank 12) (.ret (.fslice 64 1 (cutRow constAVs 1)) (AH.blank 12)) := by
    refine of_kb (ks := []) (T := []) (fun σ => ⟨rfl, rfl, fun i _ => AVs.le_of_all fun a ha => constAVs_all σ a (List.mem_of_mem_drop (List.mem_of_mem_take ha))⟩) ?_
    rw [consts_vc]
    have e : constAVs = [AV.int IntKind.u32 (1116352408 : Int), AV.int IntKind.u32 (1899447441 : Int), AV.int IntKind.u32 (3049323471 : Int), AV.int IntKind.u32 (3921009573 : Int), AV.int IntKind.u32 (961987163 : Int), AV.int IntKind.u32 (1508970993 : Int), AV.int IntKind.u32 (2453635748 : Int), AV.int IntKind.u32 (2870763221 : Int), AV.int IntKind.u32 (3624381080 : Int), AV.int IntKind.u32 (310598401 : Int), AV.int IntKind.u32 (607225278 : Int), AV.int IntKind.u32 (1426881987 : Int), AV.int IntKind.u32 (1925078388 : Int), AV.int IntKind.u32 (2162078206 : Int), AV.int IntKind.u32 (2614888103 : Int), AV.int IntKind.u32 (3248222580 : Int), AV.int IntKind.u32 (3835390401 : Int), AV.int IntKind.u32 (4022224774 : Int), AV.int IntKind.u32 (264347078 : Int), AV.int IntKind.u32 (604807628 : Int), AV.int IntKind.u32 (770255983 : Int), AV.int IntKind.u32 (1249150122 : Int), AV.int IntKind.u32 (1555081692 : Int), AV.int IntKind.u32 (1996064986 : Int), AV.int IntKind.u32 (2554220882 : Int), AV.int IntKind.u32 (2821834349 : Int), AV.int IntKind.u32 (2952996808 : Int), AV.int IntKind.u32 (3210313671 : Int), AV.int IntKind.u32 (3336571891 : Int), AV.int IntKind.u32 (3584528711 : Int), AV.int IntKind.u32 (113926993 : Int), AV.int IntKind.u32 (338241895 : Int), AV.int IntKind.u32 (666307205 : Int), AV.int IntKind.u32 (773529912 : Int), AV.int IntKind.u32 (1294757372 : Int), AV.int IntKind.u32 (1396182291 : Int), AV.int IntKind.u32 (1695183700 : Int), AV.int IntKind.u32 (1986661051 : Int), AV.int IntKind.u32 (2177026350 : Int), AV.int IntKind.u32 (2456956037 : Int), AV.int IntKind.u32 (2730485921 : Int), AV.int IntKind.u32 (2820302411 : Int), AV.int IntKind.u32 (3259730800 : Int), AV.int IntKind.u32 (3345764771 : Int), AV.int IntKind.u32 (3516065817 : Int), AV.int IntKind.u32 (3600352804 : Int), AV.int IntKind.u32 (4094571909 : Int), AV.int IntKind.u32 (275423344 : Int), AV.int IntKind.u32 (430227734 : Int), AV.int IntKind.u32 (506948616 : Int), AV.int IntKind.u32 (659060556 : Int), AV.int IntKind.u32 (883997877 : Int), AV.int IntKind.u32 (958139571 : Int), AV.int IntKind.u32 (1322822218 : Int), AV.int IntKind.u32 (1537002063 : Int), AV.int IntKind.u32 (1747873779 : Int), AV.int IntKind.u32 (1955562222 : Int), AV.int IntKind.u32 (2024104815 : Int), AV.int IntKind.u32 (2227730452 : Int), AV.int IntKind.u32 (2361852424 : Int), AV.int IntKind.u32 (2428436474 : Int), AV.int IntKind.u32 (2756734187 : Int), AV.int IntKind.u32 (3204031479 : Int), AV.int IntKind.u32 (3329325298 : Int)] := by kernel_rfl
    congr 1
    funext i
    unfold cutRow
    rw [e, Nat.zero_add]
  exact h.le (ResLe.of [] (HeapLe.of rfl rfl rfl rfl (by decide) (allN_iff.2 fun l _ => trivial)) ⟨rfl, rfl, fun i hi => consts_cut i hi _⟩)
noncomputable def kRConst : Known PP II := Known.pure 126
  (fun X args kn => match args with
    | [] => kn (.fslice 64 1 (wRow constI))
    | _ => X.fail)
  fun X sem hX args kn h => by
    split at h
    · exact ⟨_, h, fun _ => rfl, fun _ => rfl, consts_ok⟩
    · exact absurd h hX.fail
end Go.Sx
end
section
set_option maxRecDepth 1000000
namespace Go.Sx
open Go
noncomputable def h84a (W : Nat → Int) (m : Nat) : AH := { n := 13, t := Tr.ofList [(12, .rows m 1 (wRow W) (.ty 159))] }
noncomputable def s84a (h b W : Nat → Int) (x : Int × Nat) : St := { t := Tr.ofList [(0, .fslice 8 1 (wRow h)), (1, blkAV b), (4, .nilSlice), (5, .own 12 x.2 1), (6, .int .i64 x.1)], nt := 238, H := h84a W x.2, df := [] }
noncomputable def e84a (h W : Nat → Int) (m : Nat) : GE := .one (.x 0 { t := Tr.ofList [(0, .fslice 8 1 (wRow h)), (4, .nilSlice), (5, .own 12 m 1)], nt := 238, H := h84a W m, df := [] })
noncomputable def h84b (W : Nat → Int) (m : Nat) : AH := { n := 14, t := Tr.ofList [(13, .rows m 1 (wRow W) (.ty 159))] }
noncomputable def s84b (h W : Nat → Int) (x : Int × Nat) : St := { t := Tr.ofList [(0, .fslice 8 1 (wRow h)), (4, .nilSlice), (5, .own 13 x.2 1), (7, .int .i64 x.1)], nt := 238, H := h84b W x.2, df := [] }
noncomputable def e84b (h W : Nat → Int) (m : Nat) : GE := .one (.x 2 { t := Tr.ofList [(0, .fslice 8 1 (wRow h)), (4, .nilSlice), (5, .own 13 m 1)], nt := 238, H := h84b W m, df := [] })
def vB : Bool → AV | true => .slice 15 0 0 8 (some 8) 1 | false => .own 15 8 1
def vBlk (v : Nat → Int) : Bool → ABlk | true => .cells (vAV v) (.ty 159) | false => .rows 8 1 (wRow v) (.ty 159)
noncomputable def h84c (W v : Nat → Int) (b : Bool) : AH := { n := 16, t := Tr.ofList [(13, .rows 64 1 (wRow W) (.ty 159)), (15, vBlk v b)] }
noncomputable def s84c (h K W : Nat → Int) (x : Bool × Int × (Nat → Int)) : St := { t := Tr.ofList [(0, .fslice 8 1 (wRow h)), (4, .nilSlice), (5, .own 13 64 1), (10, .fslice 64 1 (wRow K)), (11, vB x.1), (12, .int .i64 x.2.1)], nt := 238, H := h84c W x.2.2 x.1, df := [] }
noncomputable def e84c (h v : Nat → Int) : GE := .one (.x 4 { t := Tr.ofList [(0, .fslice 8 1 (wRow h)), (4, .nilSlice), (11, .slice 15 0 0 8 (some 8) 1)], nt := 238, H := { n := 16, t := Tr.ofList [(15, .rows 8 1 (wRow v) (.ty 159))] }, df := [] })
noncomputable def h84d (v o : Nat → Int) (m : Nat) : AH := { n := 17, t := Tr.ofList [(15, .rows 8 1 (wRow v) (.ty 159)), (16, .rows m 1 (wRow o) (.ty 159))] }
noncomputable def s84d (h v o : Nat → Int) (x : Int × Nat) : St := { t := Tr.ofList [(0, .fslice 8 1 (wRow h)), (4, .nilSlice), (11, .slice 15 0 0 8 (some 8) 1), (17, .own 16 x.2 1), (18, .int .i64 x.1)], nt := 238, H := h84d v o x.2, df := [] }
noncomputable def e84d (o : Nat → Int) (m : Nat) : GE := .one (.x 6 { t := Tr.ofList [(4, .nilSlice), (17, .own 16 m 1)], nt := 238, H := { n := 17, t := Tr.ofList [(16, .rows m 1 (wRow o) (.ty 159))] }, df := [] })
theorem blkA_step (h b W : Nat → Int) (i : Int) (m : Nat) (mN : Nat) (Q : Prop) : (kr [] [] 84 3002 12 (s84a h b W) (fun _ => e84a h W mN) (fun x => (x.1 + 1, x.2 + 1)) Q (i, m)) = (Cond (decide (i < 16)) (Asks (inR .i64 (4 * i)) (Asks (decide (0 ≤ 4 * i) && decide (4 * i < 64)) (Asks (inR .i64 (4 * i)) (Asks (inR .i64 (4 * i + 1)) (Asks (decide (0 ≤ 4 * i + 1) && decide (4 * i + 1 < 64)) (Asks (inR .i64 (4 * i)) (Asks (inR .i64 (4 * i + 2)) (Asks (decide (0 ≤ 4 * i + 2) && decide (4 * i + 2 < 64)) (Asks (inR .i64 (4 * i)) (Asks (inR .i64 (4 * i + 3)) (Asks (decide (0 ≤ 4 * i + 3) && decide (4 * i + 3 < 64)) (Asks (decide (m ≤ m) && true && true && decide ((m + 1) * 4 ≤ 140737488355328) && true) (Asks (inR .i64 (i + 1)) (EqN (m + 1) (m + 1) (RowsLe (m + 1) (fun i_1 => bif Nat.blt i_1 m then wRow W i_1 else List.take 1 (List.drop (0 + (i_1 - m) * 1) [AV.int .u32 (Int.emod (Int.ofNat
 (Nat.lor (Int.toNat (Int.emod (Int.emod (Int.ofNat (Nat.lor (Int.toNat (Int.emod (Int.emod (Int.ofNat (Nat.lor (Int.toNat (Int.emod (Int.emod (Int.emod (b (Int.toNat (4 * i))) 4294967296 * 16777216) 4294967296) 4294967296)) (Int.toNat (Int.emod (Int.emod (Int.emod (b (Int.toNat (4 * i + 1))) 4294967296 * 65536) 4294967296) 4294967296)))) 4294967296) 4294967296)) (Int.toNat (Int.emod (Int.emod (Int.emod (b (Int.toNat (4 * i + 2))) 4294967296 * 256) 4294967296) 4294967296)))) 4294967296) 4294967296)) (Int.toNat (Int.emod (Int.emod (b (Int.toNat (4 * i + 3))) 4294967296) 4294967296)))) 4294967296)])) (wRow W) ∧ RowsLe 64 (bRow b) (bRow b) ∧ EqN (m + 1) (m + 1) (RowsLe 8 (wRow h) (wRow h) ∧ EqI (i + 1) (i + 1) Q)))))))))))))))) (EqN m mN (RowsLe m (wRow W) (wRow W) ∧ EqN m mN (RowsLe 8 (wRow h) (wRow h) ∧ True)))) := by kernel_rfl
theorem blkB_step (h W : Nat → Int) (i : Int) (m : Nat) (mN : Nat) (Q : Prop) : (kr [kRRot] [] 84 7002 13 (s84b h W) (fun _ => e84b h W mN) (fun x => (x.1 + 1, x.2 + 1)) Q (i, m)) = (Cond (decide (i < 64)) (Asks (inR .i64 (i - 15)) (Asks (decide (0 ≤ i - 15) && decide (i - 15 < Int.ofNat m)) (Asks (decide (Int.toNat (i - 15) < m)) (Asks (decide (0 ≤ W (Int.toNat (i - 15))) && decide (W (Int.toNat (i - 15)) < 4294967296) && true && true) (Asks (inR .i64 (i - 15)) (Asks (decide (0 ≤ i - 15) && decide (i - 15 < Int.ofNat m)) (Asks (decide (Int.toNat (i - 15) < m)) (Asks (decide (Int.toNat (i - 15) < m)) (Asks (decide (W (Int.toNat (i - 15)) = W (Int.toNat (i - 15)))) (Asks (decide (0 ≤ W (Int.toNat (i - 15))) && decide (W (Int.toNat (i - 15)) < 4294967296) && true && true) (Asks (inR .i64 (i - 15)) (Asks (decide (0 ≤ i - 15) && decide (i - 15 < Int.ofNat m)) (Asks (decide (Int.toNat (i - 15)
 < m)) (Asks (decide (Int.toNat (i - 15) < m)) (Asks (decide (W (Int.toNat (i - 15)) = W (Int.toNat (i - 15)))) (Asks (decide (Int.toNat (i - 15) < m)) (Asks (decide (W (Int.toNat (i - 15)) = W (Int.toNat (i - 15)))) (Asks (inR .i64 (i - 2)) (Asks (decide (0 ≤ i - 2) && decide (i - 2 < Int.ofNat m)) (Asks (decide (Int.toNat (i - 2) < m)) (Asks (decide (0 ≤ W (Int.toNat (i - 2))) && decide (W (Int.toNat (i - 2)) < 4294967296) && true && true) (Asks (inR .i64 (i - 2)) (Asks (decide (0 ≤ i - 2) && decide (i - 2 < Int.ofNat m)) (Asks (decide (Int.toNat (i - 2) < m)) (Asks (decide (Int.toNat (i - 2) < m)) (Asks (decide (W (Int.toNat (i - 2)) = W (Int.toNat (i - 2)))) (Asks (decide (0 ≤ W (Int.toNat (i - 2))) && decide (W (Int.toNat (i - 2)) < 4294967296) && true && true) (Asks (inR .i64 (i - 2)) (Asks (decide (0 ≤ i - 2) && decide (i - 2 < Int.ofNat m)) (Asks (decide (Int.toNat (i - 2) < m))
 (Asks (decide (Int.toNat (i - 2) < m)) (Asks (decide (W (Int.toNat (i - 2)) = W (Int.toNat (i - 2)))) (Asks (decide (Int.toNat (i - 2) < m)) (Asks (decide (W (Int.toNat (i - 2)) = W (Int.toNat (i - 2)))) (Asks (inR .i64 (i - 16)) (Asks (decide (0 ≤ i - 16) && decide (i - 16 < Int.ofNat m)) (Asks (decide (Int.toNat (i - 16) < m)) (Asks (inR .i64 (i - 7)) (Asks (decide (0 ≤ i - 7) && decide (i - 7 < Int.ofNat m)) (Asks (decide (Int.toNat (i - 7) < m)) (Asks (decide (m ≤ m) && true && true && decide ((m + 1) * 4 ≤ 140737488355328) && true) (Asks (inR .i64 (i + 1)) (EqN (m + 1) (m + 1) (RowsLe (m + 1) (fun i_1 => bif Nat.blt i_1 m then wRow W i_1 else List.take 1 (List.drop (0 + (i_1 - m) * 1) [AV.int .u32 (Int.emod (Int.emod (Int.emod (W (Int.toNat (i - 16)) + Int.emod (Int.ofNat (Nat.xor (Int.toNat (Int.emod (Int.emod (Int.ofNat (Nat.xor (Int.toNat (Int.emod (Int.ofNat (Sha.rot (Int.toNat
 (W (Int.toNat (i - 15)))) 7)) 4294967296)) (Int.toNat (Int.emod (Int.ofNat (Sha.rot (Int.toNat (W (Int.toNat (i - 15)))) 18)) 4294967296)))) 4294967296) 4294967296)) (Int.toNat (Int.emod (Int.fdiv (W (Int.toNat (i - 15))) 8) 4294967296)))) 4294967296) 4294967296 + W (Int.toNat (i - 7))) 4294967296 + Int.emod (Int.ofNat (Nat.xor (Int.toNat (Int.emod (Int.emod (Int.ofNat (Nat.xor (Int.toNat (Int.emod (Int.ofNat (Sha.rot (Int.toNat (W (Int.toNat (i - 2)))) 17)) 4294967296)) (Int.toNat (Int.emod (Int.ofNat (Sha.rot (Int.toNat (W (Int.toNat (i - 2)))) 19)) 4294967296)))) 4294967296) 4294967296)) (Int.toNat (Int.emod (Int.fdiv (W (Int.toNat (i - 2))) 1024) 4294967296)))) 4294967296) 4294967296)])) (wRow W) ∧ EqI (i + 1) (i + 1) (EqN (m + 1) (m + 1) (RowsLe 8 (wRow h) (wRow h) ∧ Q)))))))))))))))))))))))))))))))))))))))))))))) (EqN m mN (RowsLe m (wRow W) (wRow W) ∧ EqN m mN (RowsLe 8 (wRow h)
 (wRow h) ∧ True)))) := by kernel_rfl
theorem blkC0_step (h K W v v' vN : Nat → Int) (i : Int) (Q : Prop) : (kr [kRRot] [] 84 16002 15 (s84c h K W) (fun _ => e84c h vN) (fun x => (true, x.2.1 + 1, v')) Q (false, i, v)) = (let zz1 := (Int.emod (Int.emod (Int.emod (v 7 + Int.emod (Int.ofNat (Nat.xor (Int.toNat (Int.emod (Int.emod (Int.ofNat (Nat.xor (Int.toNat (Int.emod (Int.ofNat (Sha.rot (Int.toNat (v 4)) 6)) 4294967296)) (Int.toNat (Int.emod (Int.ofNat (Sha.rot (Int.toNat (v 4)) 11)) 4294967296)))) 4294967296) 4294967296)) (Int.toNat (Int.emod (Int.ofNat (Sha.rot (Int.toNat (v 4)) 25)) 4294967296)))) 4294967296) 4294967296 + Int.emod (Int.ofNat (Nat.xor (Int.toNat (Int.emod (Int.emod (Int.ofNat (Nat.land (Int.toNat (Int.emod (v 4) 4294967296)) (Int.toNat (Int.emod (v 5) 4294967296)))) 4294967296) 4294967296)) (Int.toNat (Int.emod (Int.emod (Int.ofNat (Nat.land (Int.toNat (Int.emod (Int.emod (Int.ofNat (Nat.xor 4294967295
 (Int.toNat (Int.emod (v 4) 4294967296)))) 4294967296) 4294967296)) (Int.toNat (Int.emod (v 6) 4294967296)))) 4294967296) 4294967296)))) 4294967296) 4294967296 + K (Int.toNat i)) 4294967296 + W (Int.toNat i)); (Cond (decide (i < 64)) (Asks (decide (0 ≤ v 4) && decide (v 4 < 4294967296) && true && true) (Asks (decide (v 7 = v 7)) (Asks (decide (0 ≤ v 4) && decide (v 4 < 4294967296) && true && true) (Asks (decide (v 7 = v 7)) (Asks (decide (0 ≤ v 4) && decide (v 4 < 4294967296) && true && true) (Asks (decide (v 7 = v 7)) (Asks (decide (v 5 = v 5)) (Asks (decide (v 5 = v 5)) (Asks (decide (v 5 = v 5)) (Asks (decide (v 6 = v 6)) (Asks (decide (v 6 = v 6)) (Asks (decide (v 6 = v 6)) (Asks (decide (0 ≤ i) && decide (i < 64)) (Asks (decide (K (Int.toNat i) = K (Int.toNat i))) (Asks (decide (K (Int.toNat i) = K (Int.toNat i))) (Asks (decide (K (Int.toNat i) = K (Int.toNat i))) (Asks (decide (0 ≤
 i) && decide (i < 64)) (Asks (decide (Int.toNat i < 64)) (Asks (decide (Int.toNat i < 64)) (Asks (decide (W (Int.toNat i) = W (Int.toNat i))) (Asks (decide (Int.toNat i < 64)) (Asks (decide (W (Int.toNat i) = W (Int.toNat i))) (Asks (decide (Int.toNat i < 64)) (Asks (decide (W (Int.toNat i) = W (Int.toNat i))) (Asks (decide (0 ≤ v 0) && decide (v 0 < 4294967296) && true && true) (Asks (decide (0 ≤ v 0) && decide (v 0 < 4294967296) && true && true) (Asks (decide (0 ≤ v 0) && decide (v 0 < 4294967296) && true && true) (Asks (decide (v 1 = v 1)) (Asks (decide (v 1 = v 1)) (Asks (decide (v 1 = v 1)) (Asks (decide (v 2 = v 2)) (Asks (decide (v 2 = v 2)) (Asks (decide (v 2 = v 2)) (Asks (decide (v 1 = v 1)) (Asks (decide (v 1 = v 1)) (Asks (decide (v 1 = v 1)) (Asks (decide (v 2 = v 2)) (Asks (decide (v 2 = v 2)) (Asks (decide (v 2 = v 2)) (Asks (inR .i64 (i + 1)) (EqI (Int.emod (Int.emod zz1
 4294967296 + Int.emod (Int.emod (Int.ofNat (Nat.xor (Int.toNat (Int.emod (Int.emod (Int.ofNat (Nat.xor (Int.toNat (Int.emod (Int.ofNat (Sha.rot (Int.toNat (v 0)) 2)) 4294967296)) (Int.toNat (Int.emod (Int.ofNat (Sha.rot (Int.toNat (v 0)) 13)) 4294967296)))) 4294967296) 4294967296)) (Int.toNat (Int.emod (Int.ofNat (Sha.rot (Int.toNat (v 0)) 22)) 4294967296)))) 4294967296 + Int.emod (Int.ofNat (Nat.xor (Int.toNat (Int.emod (Int.emod (Int.ofNat (Nat.xor (Int.toNat (Int.emod (Int.emod (Int.ofNat (Nat.land (Int.toNat (Int.emod (v 0) 4294967296)) (Int.toNat (Int.emod (v 1) 4294967296)))) 4294967296) 4294967296)) (Int.toNat (Int.emod (Int.emod (Int.ofNat (Nat.land (Int.toNat (Int.emod (v 0) 4294967296)) (Int.toNat (Int.emod (v 2) 4294967296)))) 4294967296) 4294967296)))) 4294967296) 4294967296)) (Int.toNat (Int.emod (Int.emod (Int.ofNat (Nat.land (Int.toNat (Int.emod (v 1) 4294967296))
 (Int.toNat (Int.emod (v 2) 4294967296)))) 4294967296) 4294967296)))) 4294967296) 4294967296) 4294967296) (v' 0) (EqI (v 0) (v' 1) (EqI (v 1) (v' 2) (EqI (v 2) (v' 3) (EqI (Int.emod (v 3 + Int.emod zz1 4294967296) 4294967296) (v' 4) (EqI (v 4) (v' 5) (EqI (v 5) (v' 6) (EqI (v 6) (v' 7) (RowsLe 64 (wRow W) (wRow W) ∧ RowsLe 8 (wRow h) (wRow h) ∧ EqI (i + 1) (i + 1) (RowsLe 64 (wRow K) (wRow K) ∧ Q)))))))))))))))))))))))))))))))))))))))))))))))))) (EqN 8 0 False))) := by kernel_rfl
theorem blkC1_step (h K W v v' vN : Nat → Int) (i : Int) (Q : Prop) : (kr [kRRot] [] 84 16002 15 (s84c h K W) (fun _ => e84c h vN) (fun x => (true, x.2.1 + 1, v')) Q (true, i, v)) = (let zz1 := (Int.emod (Int.emod (Int.emod (v 7 + Int.emod (Int.ofNat (Nat.xor (Int.toNat (Int.emod (Int.emod (Int.ofNat (Nat.xor (Int.toNat (Int.emod (Int.ofNat (Sha.rot (Int.toNat (v 4)) 6)) 4294967296)) (Int.toNat (Int.emod (Int.ofNat (Sha.rot (Int.toNat (v 4)) 11)) 4294967296)))) 4294967296) 4294967296)) (Int.toNat (Int.emod (Int.ofNat (Sha.rot (Int.toNat (v 4)) 25)) 4294967296)))) 4294967296) 4294967296 + Int.emod (Int.ofNat (Nat.xor (Int.toNat (Int.emod (Int.emod (Int.ofNat (Nat.land (Int.toNat (Int.emod (v 4) 4294967296)) (Int.toNat (Int.emod (v 5) 4294967296)))) 4294967296) 4294967296)) (Int.toNat (Int.emod (Int.emod (Int.ofNat (Nat.land (Int.toNat (Int.emod (Int.emod (Int.ofNat (Nat.xor 4294967295
 (Int.toNat (Int.emod (v 4) 4294967296)))) 4294967296) 4294967296)) (Int.toNat (Int.emod (v 6) 4294967296)))) 4294967296) 4294967296)))) 4294967296) 4294967296 + K (Int.toNat i)) 4294967296 + W (Int.toNat i)); (Cond (decide (i < 64)) (Asks (decide (0 ≤ v 4) && decide (v 4 < 4294967296) && true && true) (Asks (decide (v 7 = v 7)) (Asks (decide (0 ≤ v 4) && decide (v 4 < 4294967296) && true && true) (Asks (decide (v 7 = v 7)) (Asks (decide (0 ≤ v 4) && decide (v 4 < 4294967296) && true && true) (Asks (decide (v 7 = v 7)) (Asks (decide (v 5 = v 5)) (Asks (decide (v 5 = v 5)) (Asks (decide (v 5 = v 5)) (Asks (decide (v 6 = v 6)) (Asks (decide (v 6 = v 6)) (Asks (decide (v 6 = v 6)) (Asks (decide (0 ≤ i) && decide (i < 64)) (Asks (decide (K (Int.toNat i) = K (Int.toNat i))) (Asks (decide (K (Int.toNat i) = K (Int.toNat i))) (Asks (decide (K (Int.toNat i) = K (Int.toNat i))) (Asks (decide (0 ≤
 i) && decide (i < 64)) (Asks (decide (Int.toNat i < 64)) (Asks (decide (Int.toNat i < 64)) (Asks (decide (W (Int.toNat i) = W (Int.toNat i))) (Asks (decide (Int.toNat i < 64)) (Asks (decide (W (Int.toNat i) = W (Int.toNat i))) (Asks (decide (Int.toNat i < 64)) (Asks (decide (W (Int.toNat i) = W (Int.toNat i))) (Asks (decide (0 ≤ v 0) && decide (v 0 < 4294967296) && true && true) (Asks (decide (0 ≤ v 0) && decide (v 0 < 4294967296) && true && true) (Asks (decide (0 ≤ v 0) && decide (v 0 < 4294967296) && true && true) (Asks (decide (v 1 = v 1)) (Asks (decide (v 1 = v 1)) (Asks (decide (v 1 = v 1)) (Asks (decide (v 2 = v 2)) (Asks (decide (v 2 = v 2)) (Asks (decide (v 2 = v 2)) (Asks (decide (v 1 = v 1)) (Asks (decide (v 1 = v 1)) (Asks (decide (v 1 = v 1)) (Asks (decide (v 2 = v 2)) (Asks (decide (v 2 = v 2)) (Asks (decide (v 2 = v 2)) (Asks (inR .i64 (i + 1)) (EqI (Int.emod (Int.emod zz1
 4294967296 + Int.emod (Int.emod (Int.ofNat (Nat.xor (Int.toNat (Int.emod (Int.emod (Int.ofNat (Nat.xor (Int.toNat (Int.emod (Int.ofNat (Sha.rot (Int.toNat (v 0)) 2)) 4294967296)) (Int.toNat (Int.emod (Int.ofNat (Sha.rot (Int.toNat (v 0)) 13)) 4294967296)))) 4294967296) 4294967296)) (Int.toNat (Int.emod (Int.ofNat (Sha.rot (Int.toNat (v 0)) 22)) 4294967296)))) 4294967296 + Int.emod (Int.ofNat (Nat.xor (Int.toNat (Int.emod (Int.emod (Int.ofNat (Nat.xor (Int.toNat (Int.emod (Int.emod (Int.ofNat (Nat.land (Int.toNat (Int.emod (v 0) 4294967296)) (Int.toNat (Int.emod (v 1) 4294967296)))) 4294967296) 4294967296)) (Int.toNat (Int.emod (Int.emod (Int.ofNat (Nat.land (Int.toNat (Int.emod (v 0) 4294967296)) (Int.toNat (Int.emod (v 2) 4294967296)))) 4294967296) 4294967296)))) 4294967296) 4294967296)) (Int.toNat (Int.emod (Int.emod (Int.ofNat (Nat.land (Int.toNat (Int.emod (v 1) 4294967296))
 (Int.toNat (Int.emod (v 2) 4294967296)))) 4294967296) 4294967296)))) 4294967296) 4294967296) 4294967296) (v' 0) (EqI (v 0) (v' 1) (EqI (v 1) (v' 2) (EqI (v 2) (v' 3) (EqI (Int.emod (v 3 + Int.emod zz1 4294967296) 4294967296) (v' 4) (EqI (v 4) (v' 5) (EqI (v 5) (v' 6) (EqI (v 6) (v' 7) (RowsLe 64 (wRow W) (wRow W) ∧ RowsLe 8 (wRow h) (wRow h) ∧ EqI (i + 1) (i + 1) (RowsLe 64 (wRow K) (wRow K) ∧ Q)))))))))))))))))))))))))))))))))))))))))))))))))) (RowsLe 8 (cutRow (vAV v) 1) (wRow vN) ∧ RowsLe 8 (wRow h) (wRow h) ∧ True))) := by kernel_rfl
theorem blkD_step (h v o : Nat → Int) (i : Int) (m mN : Nat) (Q : Prop) : (kr [] [] 84 25002 16 (s84d h v o) (fun _ => e84d o mN) (fun x => (x.1 + 1, x.2 + 1)) Q (i, m)) = (Cond (decide (i < 8)) (Asks (decide (0 ≤ i) && decide (i < 8)) (Asks (decide (0 ≤ i) && decide (i < 8)) (Asks (decide (0 + Int.toNat i < 8)) (Asks (decide (m ≤ m) && true && true && decide ((m + 1) * 4 ≤ 140737488355328) && true) (Asks (inR .i64 (i + 1)) (EqN (m + 1) (m + 1) (RowsLe (m + 1) (fun i_1 => bif Nat.blt i_1 m then wRow o i_1 else List.take 1 (List.drop (0 + (i_1 - m) * 1) [AV.int .u32 (Int.emod (h (Int.toNat i) + v (0 + Int.toNat i)) 4294967296)])) (wRow o) ∧ RowsLe 8 (wRow v) (wRow v) ∧ EqN (m + 1) (m + 1) (RowsLe 8 (wRow h) (wRow h) ∧ EqI (i + 1) (i + 1) Q)))))))) (EqN m mN (RowsLe m (wRow o) (wRow o) ∧ EqN m mN True))) := by kernel_rfl
theorem blk_vc (h b W v o : Nat → Int) (Q : AV → Prop) : (kb [kRRot, kRConst] [(3002, 12, s84a h b W (0, 0), e84a h W 16), (7002, 13, s84b h W (16, 16), e84b h W 64), (16002, 15, s84c h constI W (false, 0, h), e84c h v), (25002, 16, s84d h v o (0, 0), e84d o 8)] 84 [.fslice 8 1 (wRow h), blkAV b] Q) = (LoopAt PP II false (loopOf II 84 3002) 12 (s84a h b W (0, 0)) (e84a h W 16) ∧ RowsLe 64 (bRow b) (bRow b) ∧ RowsLe 8 (wRow h) (wRow h) ∧ LoopAt PP II false (loopOf II 84 7002) 13 (s84b h W (16, 16)) (e84b h W 64) ∧ RowsLe 16 (wRow W) (wRow W) ∧ RowsLe 8 (wRow h) (wRow h) ∧ LoopAt PP II false (loopOf II 84 16002) 15 (s84c h constI W (false, 0, h)) (e84c h v) ∧ RowsLe 8 (fun i => bif Nat.blt i 0 then [] else wRow h (i - 0)) (wRow h) ∧ RowsLe 64 (wRow W) (wRow W) ∧ RowsLe 8 (wRow h) (wRow h) ∧ RowsLe 64 (wRow constI) (wRow constI) ∧ LoopAt PP II false (loopOf II 84 25002) 16 (s84d h v o (0,
 0)) (e84d o 8) ∧ RowsLe 8 (wRow v) (wRow v) ∧ RowsLe 8 (wRow h) (wRow h) ∧ Q (AV.fslice 8 1 (wRow o))) := by kernel_rfl
end Go.Sx
end
section
set_option maxRecDepth 1000000
namespace Go.Sx
open Go
theorem bltF {a b : Nat} (h : ¬ a < b) : Nat.blt a b = false := by
  cases e : Nat.blt a b with
  | false => rfl
  | true => exact absurd ((Nat.blt_eq ..).mp e) h
theorem push_w {m : Nat} {W : Nat → Int} {x : Int} (h : x = W m) : RowsLe (m + 1) (fun i => bif Nat.blt i m then wRow W i else List.take 1 (List.drop (0 + (i - m) * 1) [AV.int .u32 x])) (wRow W) := by
  intro j hj σ
  show AVs.le σ (bif Nat.blt j m then wRow W j else List.take 1 (List.drop (0 + (j - m) * 1) [AV.int .u32 x])) (wRow W j)
  by_cases hl : j < m
  · rw [(Nat.blt_eq ..).mpr hl, cond_true]; exact wRow_le σ W j
  · have : j = m := by omega
    subst this
    rw [bltF (by omega), cond_false, Nat.sub_self, h]
    exact ⟨⟨rfl, rfl⟩, trivial⟩
theorem askM {m : Nat} (h : m ≤ 64) : (decide (m ≤ m) && true && true && decide ((m + 1) * 4 ≤ 140737488355328) && true) = true := by
  rw [decide_eq_true (Nat.le_refl m), decide_eq_true (show (m + 1) * 4 ≤ 140737488355328 by omega)]; rfl
theorem genA_at (b : Nat → Int) : ∀ (k j : Nat), j < k → genA b k j = wordI b (4 * j)
  | 0, _, h => absurd h (Nat.not_lt_zero _)
  | k + 1, j, h => by
    simp only [genA, upd]
    by_cases e : j = k
    · rw [if_pos e, e]
    · rw [if_neg e]; exact genA_at b k j (by omega)
theorem genB_old (W : Nat → Int) : ∀ (k j : Nat), j < 16 → genB W k j = W j
  | 0, _, _ => rfl
  | k + 1, j, h => by
    simp only [genB, upd]
    rw [if_neg (by omega)]
    exact genB_old W k j h
theorem genB_stay (W : Nat → Int) : ∀ (k d j : Nat), j < 16 + k → genB W (k + d) j = genB W k j
  | _, 0, _, _ => rfl
  | k, d + 1, j, h => by
    have := genB_stay W k d j h
    rw [← this]
    show upd (genB W (k + d)) (16 + (k + d)) _ j = _
    simp only [upd]
    rw [if_neg (by omega)]
theorem sched_w (b : Nat → Int) {j : Nat} (h : j < 16) : schedI b j = wordI b (4 * j) := by
  unfold schedI
  rw [genB_old _ _ _ h, genA_at b 16 j h]
theorem sched_n (b : Nat → Int) {j : Nat} (h : 16 ≤ j) (h2 : j < 64) : schedI b j = nextI (schedI b) j := by
  obtain ⟨k, rfl⟩ : ∃ k, j = 16 + k := ⟨j - 16, by omega⟩
  have e : ∀ i, i < 16 + k → schedI b i = genB (genA b 16) k i := fun i hi => by
    unfold schedI
    have := genB_stay (genA b 16) k (48 - k) i hi
    rwa [show k + (48 - k) = 48 by omega] at this
  have e2 : schedI b (16 + k) = genB (genA b 16) (k + 1) (16 + k) := by
    unfold schedI
    have := genB_stay (genA b 16) (k + 1) (47 - k) (16 + k) (by omega)
    rwa [show k + 1 + (47 - k) = 48 by omega] at this
  rw [e2]
  show upd (genB (genA b 16) k) (16 + k) (nextI (genB (genA b 16) k) (16 + k)) (16 + k) = _
  simp only [upd, if_true]
  unfold nextI
  rw [e _ (by omega), e _ (by omega), e _ (by omega), e _ (by omega)]
theorem sched_lt {b : Nat → Int} (hb : isB b) (j : Nat) : 0 ≤ schedI b j ∧ schedI b j < 4294967296 := genB_lt (fun j => genA_lt hb 16 (by omega) j) 48 j
theorem blkA_loop (h : Nat → Int) {b : Nat → Int} (hb : isB b) : LoopAt PP II false (loopOf II 84 3002) 12 (s84a h b (schedI b) (0, 0)) (e84a h (schedI b) 16) :=
  LoopAt.of (ι := Int × Nat) hII [] (lamT_ok PP II []) 1000 12 (fun x => x.2 ≤ 16 ∧ x.1 = (x.2 : Int)) (s84a h b (schedI b)) (fun _ => e84a h (schedI b) 16) (fun x => 16 - x.2) (fun x => (x.1 + 1, x.2 + 1)) (0, 0) rfl
    ⟨by omega, rfl⟩ fun x hx => by
    obtain ⟨i, k⟩ := x
    obtain ⟨hk, h1⟩ := hx
    change k ≤ 16 at hk
    change i = (k : Int) at h1
    refine (blkA_step h b (schedI b) i k 16 _).mpr (Cond.mk (fun h => ?_) fun h => ?_)
    · simp only [decide_eq_true_eq] at h
      have hk' : k < 16 := by omega
      have n0 : Int.toNat (4 * i) = 4 * k := by omega
      have n1 : Int.toNat (4 * i + 1) = 4 * k + 1 := by omega
      have n2 : Int.toNat (4 * i + 2) = 4 * k + 2 := by omega
      have n3 : Int.toNat (4 * i + 3) = 4 * k + 3 := by omega
      have R : ∀ c : Int, 0 ≤ c → c ≤ 3 → inR .i64 (4 * i + c) = true := fun c h1 h2 => inR_small (by omega) (by omega)
      have R0 : inR .i64 (4 * i) = true := inR_small (by omega) (by omega)
      have D : ∀ c : Int, 0 ≤ c → c ≤ 3 → (decide (0 ≤ 4 * i + c) && decide (4 * i + c < 64)) = true := fun c h1 h2 => by simp; omega
      have D0 : (decide (0 ≤ 4 * i) && decide (4 * i < 64)) = true := by simp; omega
      obtain ⟨x0, hx0, y0⟩ : ∃ x : Nat, b (4 * k) = (x : Int) ∧ x < 256 := ⟨(b (4 * k)).toNat, by have := hb (4 * k) (by omega); omega, by have := hb (4 * k) (by omega); omega⟩
      obtain ⟨x1, hx1, y1⟩ : ∃ x : Nat, b (4 * k + 1) = (x : Int) ∧ x < 256 := ⟨(b (4 * k + 1)).toNat, by have := hb (4 * k + 1) (by omega); omega, by have := hb (4 * k + 1) (by omega); omega⟩
      obtain ⟨x2, hx2, y2⟩ : ∃ x : Nat, b (4 * k + 2) = (x : Int) ∧ x < 256 := ⟨(b (4 * k + 2)).toNat, by have := hb (4 * k + 2) (by omega); omega, by have := hb (4 * k + 2) (by omega); omega⟩
      obtain ⟨x3, hx3, y3⟩ : ∃ x : Nat, b (4 * k + 3) = (x : Int) ∧ x < 256 := ⟨(b (4 * k + 3)).toNat, by have := hb (4 * k + 3) (by omega); omega, by have := hb (4 * k + 3) (by omega); omega⟩
      have ew : schedI b k = ((x0 * 16777216 + x1 * 65536 + x2 * 256 + x3 : Nat) : Int) := by rw [sched_w b hk']; unfold wordI; rw [hx0, hx1, hx2, hx3]; omega
      simp only [n0, n1, n2, n3, hx0, hx1, hx2, hx3]
      repeat' (first | with_reducible exact trivial | with_reducible rfl | with_reducible exact RowsLe.same fun _ _ => wRow_le _ _ _ | with_reducible exact RowsLe.same fun _ _ => bRow_le _ _ _ | with_reducible refine EqN.mk ?_ ?_ | with_reducible refine EqI.mk ?_ ?_ | with_reducible refine EqB.mk ?_ ?_ | with_reducible refine Asks.mk ?_ ?_ | with_reducible refine And.intro ?_ ?_)
      all_goals first | with_reducible exact R0 | with_reducible exact D0 | exact R _ (by omega) (by omega) | exact D _ (by omega) (by omega) | exact askM (by omega) | exact inR_small (by omega) (by omega) | exact push_w ((word_eq y0 y1 y2 y3).trans ew.symm) | skip
      · show k + 1 ≤ 16; omega
      · show i + 1 = ((k + 1 : Nat) : Int); omega
      · show 16 - (k + 1) < 16 - k; omega
    · simp only [decide_eq_false_iff_not] at h
      have : k = 16 := by omega
      subst this
      repeat' (first | with_reducible exact trivial | with_reducible rfl | with_reducible exact RowsLe.same fun _ _ => wRow_le _ _ _ | with_reducible exact RowsLe.same fun _ _ => bRow_le _ _ _ | with_reducible refine EqN.mk ?_ ?_ | with_reducible refine EqI.mk ?_ ?_ | with_reducible refine EqB.mk ?_ ?_ | with_reducible refine Asks.mk ?_ ?_ | with_reducible refine And.intro ?_ ?_)
theorem rotAsk {x : Nat} (h : B32 x) : (decide ((0 : Int) ≤ (x : Int)) && decide ((x : Int) < 4294967296) && true && true) = true := by
  have h : x < 4294967296 := h
  rw [decide_eq_true (by omega), decide_eq_true (by omega)]; rfl
theorem sig_eq {x a b : Nat} (k : Nat) {s : Nat} (hx : B32 x) (hs : Int.toNat (Int.emod (Int.fdiv (x : Int) (s : Int)) 4294967296) = x >>> k) :
    Int.emod (Int.ofNat (Nat.xor (Int.toNat (Int.emod (Int.emod (Int.ofNat (Nat.xor (Int.toNat (Int.emod (Int.ofNat (Sha.rot (Int.toNat (x : Int)) a)) 4294967296)) (Int.toNat (Int.emod (Int.ofNat (Sha.rot (Int.toNat (x : Int)) b)) 4294967296)))) 4294967296) 4294967296)) (Int.toNat (Int.emod (Int.fdiv (x : Int) (s : Int)) 4294967296)))) 4294967296 = Int.ofNat (Nat.xor (Nat.xor (Sha.rot x a) (Sha.rot x b)) (x >>> k)) := by
  have r1 := B32.rot (n := a) hx
  have r2 := B32.rot (n := b) hx
  rw [hs]
  simp only [Int.toNat_natCast, m32 r1, m32 r2, toNat_ofNat, m32 (r1.xor r2), m32 ((r1.xor r2).xor (hx.shr k))]
theorem nextR {a b c d : Nat} (_ : B32 a) (hb : B32 b) (_ : B32 c) (hd : B32 d) :
    Int.emod (Int.emod (Int.emod ((a : Int) + Int.emod (Int.ofNat (Nat.xor (Int.toNat (Int.emod (Int.emod (Int.ofNat (Nat.xor (Int.toNat (Int.emod (Int.ofNat (Sha.rot (Int.toNat (b : Int)) 7)) 4294967296)) (Int.toNat (Int.emod (Int.ofNat (Sha.rot (Int.toNat (b : Int)) 18)) 4294967296)))) 4294967296) 4294967296)) (Int.toNat (Int.emod (Int.fdiv (b : Int) 8) 4294967296)))) 4294967296) 4294967296 + (c : Int)) 4294967296 + Int.emod (Int.ofNat (Nat.xor (Int.toNat (Int.emod (Int.emod (Int.ofNat (Nat.xor (Int.toNat (Int.emod (Int.ofNat (Sha.rot (Int.toNat (d : Int)) 17)) 4294967296)) (Int.toNat (Int.emod (Int.ofNat (Sha.rot (Int.toNat (d : Int)) 19)) 4294967296)))) 4294967296) 4294967296)) (Int.toNat (Int.emod (Int.fdiv (d : Int) 1024) 4294967296)))) 4294967296) 4294967296 =
      ((Sha.add32 (Sha.add32 (Sha.add32 a (Sha.sig0 b)) c) (Sha.sig1 d) : Nat) : Int) := by
  have s1 := sig_eq (x := b) (a := 7) (b := 18) (s := 8) 3 hb (shr_eq b 3 hb)
  have s2 := sig_eq (x := d) (a := 17) (b := 19) (s := 1024) 10 hd (shr_eq d 10 hd)
  have t1 : Nat.xor (Nat.xor (Sha.rot b 7) (Sha.rot b 18)) (b >>> 3) = Sha.sig0 b := rfl
  have t2 : Nat.xor (Nat.xor (Sha.rot d 17) (Sha.rot d 19)) (d >>> 10) = Sha.sig1 d := rfl
  rw [t1] at s1
  rw [t2] at s2
  have s1' := s1
  have s2' := s2
  simp only [Int.cast_ofNat_Int] at s1' s2'
  rw [s1', s2']
  have e1 : Int.emod ((a : Int) + Int.ofNat (Sha.sig0 b)) 4294967296 = Int.ofNat (Sha.add32 a (Sha.sig0 b)) := m32_add _ _
  rw [e1]
  have e2 : Int.emod (Int.ofNat (Sha.add32 a (Sha.sig0 b)) + (c : Int)) 4294967296 = Int.ofNat (Sha.add32 (Sha.add32 a (Sha.sig0 b)) c) := m32_add _ _
  rw [e2, m32_add]
  rfl
theorem blkB_loop (h : Nat → Int) {b : Nat → Int} (hb : isB b) : LoopAt PP II false (loopOf II 84 7002) 13 (s84b h (schedI b) (16, 16)) (e84b h (schedI b) 64) :=
  LoopAt.of (ι := Int × Nat) hII [kRRot] (lamT_ok PP II []) 1000 13 (fun x => 16 ≤ x.2 ∧ x.2 ≤ 64 ∧ x.1 = (x.2 : Int)) (s84b h (schedI b)) (fun _ => e84b h (schedI b) 64) (fun x => 64 - x.2) (fun x => (x.1 + 1, x.2 + 1)) (16, 16) rfl
    ⟨by omega, by omega, rfl⟩ fun x hx => by
    obtain ⟨i, k⟩ := x
    obtain ⟨hk0, hk, h1⟩ := hx
    change 16 ≤ k at hk0
    change k ≤ 64 at hk
    change i = (k : Int) at h1
    have hW := sched_lt hb
    refine (blkB_step h (schedI b) i k 64 _).mpr (Cond.mk (fun h => ?_) fun h => ?_)
    · simp only [decide_eq_true_eq] at h
      have hk' : k < 64 := by omega
      have n15 : Int.toNat (i - 15) = k - 15 := by omega
      have n2 : Int.toNat (i - 2) = k - 2 := by omega
      have n16 : Int.toNat (i - 16) = k - 16 := by omega
      have n7 : Int.toNat (i - 7) = k - 7 := by omega
      have en := sched_n b hk0 hk'
      unfold nextI at en
      obtain ⟨a, ha, a'⟩ := nat_of (hW (k - 16))
      obtain ⟨p, hp, p'⟩ := nat_of (hW (k - 15))
      obtain ⟨c, hc, c'⟩ := nat_of (hW (k - 7))
      obtain ⟨d, hd, d'⟩ := nat_of (hW (k - 2))
      have R : ∀ c : Int, 0 ≤ c → c ≤ 16 → inR .i64 (i - c) = true := fun c h1 h2 => inR_small (by omega) (by omega)
      have D : ∀ c : Int, 1 ≤ c → c ≤ 16 → (decide (0 ≤ i - c) && decide (i - c < Int.ofNat k)) = true := fun c h1 h2 => by
        have : Int.ofNat k = (k : Int) := rfl
        rw [decide_eq_true (by omega), decide_eq_true (by omega)]; rfl
      have L : ∀ c, 1 ≤ c → decide (k - c < k) = true := fun c h => decide_eq_true (by omega)
      have hself : ∀ x : Int, decide (x = x) = true := fun x => decide_eq_true rfl
      have R15 := R 15 (by omega) (by omega)
      have R2 := R 2 (by omega) (by omega)
      have R16 := R 16 (by omega) (by omega)
      have R7 := R 7 (by omega) (by omega)
      have D15 := D 15 (by omega) (by omega)
      have D2 := D 2 (by omega) (by omega)
      have D16 := D 16 (by omega) (by omega)
      have D7 := D 7 (by omega) (by omega)
      have L15 := L 15 (by omega)
      have L2 := L 2 (by omega)
      have L16 := L 16 (by omega)
      have L7 := L 7 (by omega)
      have aM := askM (m := k) (by omega)
      have i1 : inR .i64 (i + 1) = true := inR_small (by omega) (by omega)
      rw [ha, hp, hc, hd] at en
      have W15 := rotAsk p'
      have W2 := rotAsk d'
      have dT : decide True = true := decide_eq_true trivial
      simp only [n15, n2, n16, n7, ha, hp, hc, hd]
      repeat' (first | with_reducible exact trivial | with_reducible rfl | with_reducible exact RowsLe.same fun _ _ => wRow_le _ _ _ | with_reducible exact RowsLe.same fun _ _ => bRow_le _ _ _ | with_reducible refine EqN.mk ?_ ?_ | with_reducible refine EqI.mk ?_ ?_ | with_reducible refine EqB.mk ?_ ?_ | with_reducible refine Asks.mk ?_ ?_ | with_reducible refine And.intro ?_ ?_)
      all_goals first | with_reducible exact W15 | with_reducible exact W2 | with_reducible exact dT | with_reducible exact hself _ | with_reducible first | exact R15 | exact R2 | exact R16 | exact R7 | exact D15 | exact D2 | exact D16 | exact D7 | exact L15 | exact L2 | exact L16 | exact L7 | exact aM | exact i1 | skip
      · exact push_w ((nextR a' p' c' d').trans en.symm)
      · show 16 ≤ k + 1; omega
      · show k + 1 ≤ 64; omega
      · show i + 1 = ((k + 1 : Nat) : Int); omega
      · show 64 - (k + 1) < 64 - k; omega
    · simp only [decide_eq_false_iff_not] at h
      have : k = 64 := by omega
      subst this
      repeat' (first | with_reducible exact trivial | with_reducible rfl | with_reducible exact RowsLe.same fun _ _ => wRow_le _ _ _ | with_reducible exact RowsLe.same fun _ _ => bRow_le _ _ _ | with_reducible refine EqN.mk ?_ ?_ | with_reducible refine EqI.mk ?_ ?_ | with_reducible refine EqB.mk ?_ ?_ | with_reducible refine Asks.mk ?_ ?_ | with_reducible refine And.intro ?_ ?_)
end Go.Sx
end
