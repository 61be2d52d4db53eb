/- CertifyRoot is proved, part 16. -/
import Derived.Test.YtleifmkjbmhlpaaGreatDoorX15
set_option linter.unusedVariables false
set_option linter.unusedSimpArgs false
set_option linter.unusedSectionVars false
section
set_option maxRecDepth 1000000
namespace Go.Sx
open Go
theorem mix3_eq {x : Int} (a b c : Nat) (h : 0 ≤ x ∧ x < 4294967296) :
    Int.emod (Int.ofNat (Nat.xor (Int.toNat (Int.emod (Int.emod (Int.ofNat (Nat.xor (Int.toNat (Int.emod (Int.ofNat (Sha.rot (Int.toNat x) a)) 4294967296)) (Int.toNat (Int.emod (Int.ofNat (Sha.rot (Int.toNat x) b)) 4294967296)))) 4294967296) 4294967296)) (Int.toNat (Int.emod (Int.ofNat (Sha.rot (Int.toNat x) c)) 4294967296)))) 4294967296 = Int.ofNat (mix3 (Int.toNat x) a b c) := by
  have hx : B32 (Int.toNat x) := by show _ < _; omega
  have r1 := B32.rot (n := a) hx
  have r2 := B32.rot (n := b) hx
  have r3 := B32.rot (n := c) hx
  simp only [m32 r1, m32 r2, m32 r3, toNat_ofNat, m32 (r1.xor r2), m32 ((r1.xor r2).xor r3)]
  rfl
theorem rotAsk' {x : Int} (h : 0 ≤ x ∧ x < 4294967296) : (decide ((0 : Int) ≤ x) && decide (x < 4294967296) && true && true) = true := by
  rw [decide_eq_true h.1, decide_eq_true h.2]; rfl
theorem cut8 (v : Nat → Int) : RowsLe 8 (cutRow (vAV v) 1) (wRow v) := by
  intro i hi σ
  match i, hi with
  | 0, _ | 1, _ | 2, _ | 3, _ | 4, _ | 5, _ | 6, _ | 7, _ => exact ⟨⟨rfl, rfl⟩, trivial⟩
theorem blkC_loop {h W : Nat → Int} (hh : isW h) : LoopAt PP II false (loopOf II 84 16002) 15 (s84c h constI W (false, 0, h)) (e84c h (rndsI W h 64)) :=
  LoopAt.of (ι := Bool × Int × (Nat → Int)) hII [kRRot] (lamT_ok PP II []) 1000 15 (fun x => ∃ k : Nat, k ≤ 64 ∧ x.2.1 = (k : Int) ∧ x.2.2 = rndsI W h k ∧ (x.1 = false → k = 0)) (s84c h constI W) (fun _ => e84c h (rndsI W h 64)) (fun x => (64 - x.2.1).toNat) (fun x => (true, x.2.1 + 1, rndI (constI x.2.1.toNat) (W x.2.1.toNat) x.2.2)) (false, 0, h) rfl
    ⟨0, by omega, rfl, rfl, fun _ => rfl⟩ fun x hx => by
    obtain ⟨b, i, v⟩ := x
    obtain ⟨k, hk, h1, h2, h3⟩ := hx
    change i = (k : Int) at h1
    change v = rndsI W h k at h2
    change b = false → k = 0 at h3
    have hv : isW v := by rw [h2]; exact rndsI_w hh k
    have m0 := rotAsk' (hv 0 (by omega))
    have m4 := rotAsk' (hv 4 (by omega))
    have hself : ∀ x : Int, decide (x = x) = true := fun x => decide_eq_true rfl
    have dT : decide True = true := decide_eq_true trivial
    have x4 := mix3_eq 6 11 25 (hv 4 (by omega))
    have x0 := mix3_eq 2 13 22 (hv 0 (by omega))
    have fin : k < 64 → ∃ k' : Nat, k' ≤ 64 ∧ i + 1 = (k' : Int) ∧ rndI (constI i.toNat) (W i.toNat) v = rndsI W h k' ∧ (true = false → k' = 0) := fun hk' => by
      refine ⟨k + 1, by omega, by omega, ?_, fun e => by cases e⟩
      have ni : Int.toNat i = k := by omega
      rw [ni, h2]; rfl
    have dec : i < 64 → (64 - (i + 1)).toNat < (64 - i).toNat := fun h => by omega
    have hr : -1000 ≤ i → i < 64 → inR .i64 (i + 1) = true := fun _ _ => inR_small (by omega) (by omega)
    cases b with
    | false =>
      refine (blkC0_step h constI W v _ (rndsI W h 64) i _).mpr (Cond.mk (fun c => ?_) fun c => ?_)
      · simp only [decide_eq_true_eq] at c
        have hin : (decide ((0 : Int) ≤ i) && decide (i < (64 : Int))) = true := by simp only [Bool.and_eq_true, decide_eq_true_eq]; omega
        have hin2 : decide (Int.toNat i < 64) = true := by simp only [decide_eq_true_eq]; omega
        have hr := hr (by omega) c
        simp only [x4, x0]
        repeat' (first | with_reducible exact trivial | with_reducible rfl | with_reducible exact RowsLe.same fun _ _ => wRow_le _ _ _ | with_reducible exact RowsLe.same fun _ _ => bRow_le _ _ _ | with_reducible refine EqN.mk ?_ ?_ | with_reducible refine EqI.mk ?_ ?_ | with_reducible refine EqB.mk ?_ ?_ | with_reducible refine Asks.mk ?_ ?_ | with_reducible refine And.intro ?_ ?_)
        all_goals first | with_reducible exact hin | with_reducible exact hin2 | with_reducible exact m0 | with_reducible exact dT | with_reducible exact m4 | with_reducible exact hself _ | with_reducible exact hr | (rw [rnd0, t1I, t2I]; done) | (rw [rnd4, t1I]; done) | with_reducible exact (rnd1 _ _ _).symm | with_reducible exact (rnd2 _ _ _).symm | with_reducible exact (rnd3 _ _ _).symm | with_reducible exact (rnd5 _ _ _).symm | with_reducible exact (rnd6 _ _ _).symm | with_reducible exact (rnd7 _ _ _).symm | exact fin (by omega) | exact dec c | skip
      · simp only [decide_eq_false_iff_not] at c
        have := h3 rfl
        omega
    | true =>
      refine (blkC1_step h constI W v _ (rndsI W h 64) i _).mpr (Cond.mk (fun c => ?_) fun c => ?_)
      · simp only [decide_eq_true_eq] at c
        have hin : (decide ((0 : Int) ≤ i) && decide (i < (64 : Int))) = true := by simp only [Bool.and_eq_true, decide_eq_true_eq]; omega
        have hin2 : decide (Int.toNat i < 64) = true := by simp only [decide_eq_true_eq]; omega
        have hr := hr (by omega) c
        simp only [x4, x0]
        repeat' (first | with_reducible exact trivial | with_reducible rfl | with_reducible exact RowsLe.same fun _ _ => wRow_le _ _ _ | with_reducible exact RowsLe.same fun _ _ => bRow_le _ _ _ | with_reducible refine EqN.mk ?_ ?_ | with_reducible refine EqI.mk ?_ ?_ | with_reducible refine EqB.mk ?_ ?_ | with_reducible refine Asks.mk ?_ ?_ | with_reducible refine And.intro ?_ ?_)
        all_goals first | with_reducible exact hin | with_reducible exact hin2 | with_reducible exact m0 | with_reducible exact dT | with_reducible exact m4 | with_reducible exact hself _ | with_reducible exact hr | (rw [rnd0, t1I, t2I]; done) | (rw [rnd4, t1I]; done) | with_reducible exact (rnd1 _ _ _).symm | with_reducible exact (rnd2 _ _ _).symm | with_reducible exact (rnd3 _ _ _).symm | with_reducible exact (rnd5 _ _ _).symm | with_reducible exact (rnd6 _ _ _).symm | with_reducible exact (rnd7 _ _ _).symm | exact fin (by omega) | exact dec c | skip
      · simp only [decide_eq_false_iff_not] at c
        have : k = 64 := by omega
        subst this
        rw [h2]
        exact ⟨cut8 _, RowsLe.same fun _ _ => wRow_le _ _ _, trivial⟩
theorem blkD_loop (b : Nat → Int) {h : Nat → Int} : LoopAt PP II false (loopOf II 84 25002) 16 (s84d h (rndsI (schedI b) h 64) (addI b h) (0, 0)) (e84d (addI b h) 8) :=
  LoopAt.of (ι := Int × Nat) hII [] (lamT_ok PP II []) 1000 16 (fun x => x.2 ≤ 8 ∧ x.1 = (x.2 : Int)) (s84d h (rndsI (schedI b) h 64) (addI b h)) (fun _ => e84d (addI b h) 8) (fun x => 8 - x.2) (fun x => (x.1 + 1, x.2 + 1)) (0, 0) rfl
    ⟨by omega, rfl⟩ fun x hx => by
    obtain ⟨i, k⟩ := x
    obtain ⟨hk, h1⟩ := hx
    change k ≤ 8 at hk
    change i = (k : Int) at h1
    refine (blkD_step h (rndsI (schedI b) h 64) (addI b h) i k 8 _).mpr (Cond.mk (fun c => ?_) fun c => ?_)
    · simp only [decide_eq_true_eq] at c
      have ni : Int.toNat i = k := by omega
      have hin : (decide ((0 : Int) ≤ i) && decide (i < (8 : Int))) = true := by simp only [Bool.and_eq_true, decide_eq_true_eq]; omega
      rw [ni, Nat.zero_add]
      have hin2 : decide (k < 8) = true := by simp only [decide_eq_true_eq]; omega
      have aM := askM (m := k) (by omega)
      have hr : inR .i64 (i + 1) = true := inR_small (by omega) (by omega)
      repeat' (first | with_reducible exact trivial | with_reducible rfl | with_reducible exact RowsLe.same fun _ _ => wRow_le _ _ _ | with_reducible exact RowsLe.same fun _ _ => bRow_le _ _ _ | with_reducible refine EqN.mk ?_ ?_ | with_reducible refine EqI.mk ?_ ?_ | with_reducible refine EqB.mk ?_ ?_ | with_reducible refine Asks.mk ?_ ?_ | with_reducible refine And.intro ?_ ?_)
      all_goals first | with_reducible exact hin | with_reducible exact hin2 | with_reducible exact aM | with_reducible exact hr | exact push_w (add_at b h k) | skip
      · show k + 1 ≤ 8; omega
      · show i + 1 = ((k + 1 : Nat) : Int); omega
      · show 8 - (k + 1) < 8 - k; omega
    · simp only [decide_eq_false_iff_not] at c
      have : k = 8 := by omega
      subst this
      repeat' (first | with_reducible exact trivial | with_reducible rfl | with_reducible exact RowsLe.same fun _ _ => wRow_le _ _ _ | with_reducible exact RowsLe.same fun _ _ => bRow_le _ _ _ | with_reducible refine EqN.mk ?_ ?_ | with_reducible refine EqI.mk ?_ ?_ | with_reducible refine EqB.mk ?_ ?_ | with_reducible refine Asks.mk ?_ ?_ | with_reducible refine And.intro ?_ ?_)
theorem block_ok {h b : Nat → Int} (hb : isB b) (hh : isW h) : CallGives PP II 84 [.fslice 8 1 (wRow h), blkAV b] (AH.blank 12) (.ret (.fslice 8 1 (wRow (addI b h))) (AH.blank 12)) := by
  refine of_kb (ks := [kRRot, kRConst]) (T := [(3002, 12, s84a h b (schedI b) (0, 0), e84a h (schedI b) 16), (7002, 13, s84b h (schedI b) (16, 16), e84b h (schedI b) 64), (16002, 15, s84c h constI (schedI b) (false, 0, h), e84c h (rndsI (schedI b) h 64)), (25002, 16, s84d h (rndsI (schedI b) h 64) (addI b h) (0, 0), e84d (addI b h) 8)]) (fun σ => ⟨rfl, rfl, fun i _ => wRow_le σ _ i⟩) ?_
  rw [blk_vc]
  have w : ∀ n (W : Nat → Int), RowsLe n (wRow W) (wRow W) := fun n W => RowsLe.same fun _ _ => wRow_le _ _ _
  refine ⟨blkA_loop h hb, RowsLe.same fun _ _ => bRow_le _ _ _, w _ _, blkB_loop h hb, w _ _, w _ _, blkC_loop hh, ?_, w _ _, w _ _, w _ _, blkD_loop b, w _ _, w _ _, rfl⟩
  intro i hi σ
  show AVs.le σ (bif Nat.blt i 0 then [] else wRow h (i - 0)) (wRow h i)
  rw [bltF (Nat.not_lt_zero i), cond_false]
  exact wRow_le σ h i
def word32Ok (n : Nat) (f : Nat → List AV) : Bool := (List.range n).all fun i => match f i with | [.int .u32 x] => decide (0 ≤ x) && decide (x < 4294967296) | _ => false
def word32Of (f : Nat → List AV) (i : Nat) : Int := match f i with | [.int .u32 x] => x | _ => 0
theorem word32Ok_at {n : Nat} {f : Nat → List AV} (h : word32Ok n f = true) {i : Nat} (hi : i < n) : f i = [.int .u32 (word32Of f i)] ∧ 0 ≤ word32Of f i ∧ word32Of f i < 4294967296 := by
  have := List.all_eq_true.1 h i (List.mem_range.2 hi)
  unfold word32Of
  split at this
  · rename_i x hx; rw [hx]; simpa using this
  · cases this
noncomputable def kRBlock : Known PP II := Known.pure 84
  (fun X args kn => match args with
    | [.fslice n 1 h, .fslice m 1 b] => X.assert (decide (n = 8) && decide (m = 64)) (X.assert (word32Ok 8 h) (X.assert (bytesOk 64 b) (kn (.fslice 8 1 (wRow (addI (byteOf b) (word32Of h)))))))
    | _ => X.fail)
  fun X sem hX args kn h => by
    split at h
    · rename_i n f m b
      obtain ⟨e0, k0⟩ := hX.assert _ _ h
      obtain ⟨e1, k1⟩ := hX.assert _ _ k0
      obtain ⟨e2, k2⟩ := hX.assert _ _ k1
      simp only [Bool.and_eq_true, decide_eq_true_eq] at e0
      obtain ⟨rfl, rfl⟩ := e0
      refine ⟨_, k2, fun _ => rfl, fun _ => rfl, ?_⟩
      have := block_ok (h := word32Of f) (b := byteOf b) (fun i hi => (bytesOk_at e2 hi).2) (fun i hi => (word32Ok_at e1 hi).2)
      exact this.argsLe ⟨⟨rfl, rfl, fun i hi => by rw [(word32Ok_at e1 hi).1]; exact wRow_le _ _ _⟩, ⟨rfl, rfl, fun i hi => by rw [(bytesOk_at e2 hi).1]; exact bRow_le _ _ _⟩, trivial⟩
    · exact absurd h hX.fail
end Go.Sx
end
section
set_option maxRecDepth 1000000
namespace Go.Sx
open Go
def dByte (x : Int) (m : Int) : UInt8 := UInt8.ofNat (Int.toNat (Int.emod (Int.fdiv x m) 256))
def dBytes (v : Nat → Int) : List UInt8 := [dByte (v 0) 16777216, dByte (v 0) 65536, dByte (v 0) 256, dByte (v 0) 1, dByte (v 1) 16777216, dByte (v 1) 65536, dByte (v 1) 256, dByte (v 1) 1, dByte (v 2) 16777216, dByte (v 2) 65536, dByte (v 2) 256, dByte (v 2) 1, dByte (v 3) 16777216, dByte (v 3) 65536, dByte (v 3) 256, dByte (v 3) 1, dByte (v 4) 16777216, dByte (v 4) 65536, dByte (v 4) 256, dByte (v 4) 1, dByte (v 5) 16777216, dByte (v 5) 65536, dByte (v 5) 256, dByte (v 5) 1, dByte (v 6) 16777216, dByte (v 6) 65536, dByte (v 6) 256, dByte (v 6) 1, dByte (v 7) 16777216, dByte (v 7) 65536, dByte (v 7) 256, dByte (v 7) 1]
theorem dig_vc (v : Nat → Int) (Q : AV → Prop) : (kb [] [] 121 [.agg (vAV v)] Q) = (Asks (decide (0 ≤ Int.emod (Int.fdiv (v 0) 16777216) 256) && decide (Int.emod (Int.fdiv (v 0) 16777216) 256 ≤ 255) && (decide (0 ≤ Int.emod (Int.fdiv (v 0) 65536) 256) && decide (Int.emod (Int.fdiv (v 0) 65536) 256 ≤ 255) && (decide (0 ≤ Int.emod (Int.fdiv (v 0) 256) 256) && decide (Int.emod (Int.fdiv (v 0) 256) 256 ≤ 255) && (decide (0 ≤ Int.emod (Int.fdiv (v 0) 1) 256) && decide (Int.emod (Int.fdiv (v 0) 1) 256 ≤ 255) && (decide (0 ≤ Int.emod (Int.fdiv (v 1) 16777216) 256) && decide (Int.emod (Int.fdiv (v 1) 16777216) 256 ≤ 255) && (decide (0 ≤ Int.emod (Int.fdiv (v 1) 65536) 256) && decide (Int.emod (Int.fdiv (v 1) 65536) 256 ≤ 255) && (decide (0 ≤ Int.emod (Int.fdiv (v 1) 256) 256) && decide (Int.emod (Int.fdiv (v 1) 256) 256 ≤ 255) && (decide (0 ≤ Int.emod (Int.fdiv (v 1) 1) 256) && decide (Int.emod
 (Int.fdiv (v 1) 1) 256 ≤ 255) && (decide (0 ≤ Int.emod (Int.fdiv (v 2) 16777216) 256) && decide (Int.emod (Int.fdiv (v 2) 16777216) 256 ≤ 255) && (decide (0 ≤ Int.emod (Int.fdiv (v 2) 65536) 256) && decide (Int.emod (Int.fdiv (v 2) 65536) 256 ≤ 255) && (decide (0 ≤ Int.emod (Int.fdiv (v 2) 256) 256) && decide (Int.emod (Int.fdiv (v 2) 256) 256 ≤ 255) && (decide (0 ≤ Int.emod (Int.fdiv (v 2) 1) 256) && decide (Int.emod (Int.fdiv (v 2) 1) 256 ≤ 255) && (decide (0 ≤ Int.emod (Int.fdiv (v 3) 16777216) 256) && decide (Int.emod (Int.fdiv (v 3) 16777216) 256 ≤ 255) && (decide (0 ≤ Int.emod (Int.fdiv (v 3) 65536) 256) && decide (Int.emod (Int.fdiv (v 3) 65536) 256 ≤ 255) && (decide (0 ≤ Int.emod (Int.fdiv (v 3) 256) 256) && decide (Int.emod (Int.fdiv (v 3) 256) 256 ≤ 255) && (decide (0 ≤ Int.emod (Int.fdiv (v 3) 1) 256) && decide (Int.emod (Int.fdiv (v 3) 1) 256 ≤ 255) && (decide (0 ≤ Int.emod
 (Int.fdiv (v 4) 16777216) 256) && decide (Int.emod (Int.fdiv (v 4) 16777216) 256 ≤ 255) && (decide (0 ≤ Int.emod (Int.fdiv (v 4) 65536) 256) && decide (Int.emod (Int.fdiv (v 4) 65536) 256 ≤ 255) && (decide (0 ≤ Int.emod (Int.fdiv (v 4) 256) 256) && decide (Int.emod (Int.fdiv (v 4) 256) 256 ≤ 255) && (decide (0 ≤ Int.emod (Int.fdiv (v 4) 1) 256) && decide (Int.emod (Int.fdiv (v 4) 1) 256 ≤ 255) && (decide (0 ≤ Int.emod (Int.fdiv (v 5) 16777216) 256) && decide (Int.emod (Int.fdiv (v 5) 16777216) 256 ≤ 255) && (decide (0 ≤ Int.emod (Int.fdiv (v 5) 65536) 256) && decide (Int.emod (Int.fdiv (v 5) 65536) 256 ≤ 255) && (decide (0 ≤ Int.emod (Int.fdiv (v 5) 256) 256) && decide (Int.emod (Int.fdiv (v 5) 256) 256 ≤ 255) && (decide (0 ≤ Int.emod (Int.fdiv (v 5) 1) 256) && decide (Int.emod (Int.fdiv (v 5) 1) 256 ≤ 255) && (decide (0 ≤ Int.emod (Int.fdiv (v 6) 16777216) 256) && decide (Int.emod
 (Int.fdiv (v 6) 16777216) 256 ≤ 255) && (decide (0 ≤ Int.emod (Int.fdiv (v 6) 65536) 256) && decide (Int.emod (Int.fdiv (v 6) 65536) 256 ≤ 255) && (decide (0 ≤ Int.emod (Int.fdiv (v 6) 256) 256) && decide (Int.emod (Int.fdiv (v 6) 256) 256 ≤ 255) && (decide (0 ≤ Int.emod (Int.fdiv (v 6) 1) 256) && decide (Int.emod (Int.fdiv (v 6) 1) 256 ≤ 255) && (decide (0 ≤ Int.emod (Int.fdiv (v 7) 16777216) 256) && decide (Int.emod (Int.fdiv (v 7) 16777216) 256 ≤ 255) && (decide (0 ≤ Int.emod (Int.fdiv (v 7) 65536) 256) && decide (Int.emod (Int.fdiv (v 7) 65536) 256 ≤ 255) && (decide (0 ≤ Int.emod (Int.fdiv (v 7) 256) 256) && decide (Int.emod (Int.fdiv (v 7) 256) 256 ≤ 255) && (decide (0 ≤ Int.emod (Int.fdiv (v 7) 1) 256) && decide (Int.emod (Int.fdiv (v 7) 1) 256 ≤ 255) && true))))))))))))))))))))))))))))))) && true) (Q (AV.str [UInt8.ofNat (Int.toNat (Int.emod (Int.fdiv (v 0) 16777216) 256)),
 UInt8.ofNat (Int.toNat (Int.emod (Int.fdiv (v 0) 65536) 256)), UInt8.ofNat (Int.toNat (Int.emod (Int.fdiv (v 0) 256) 256)), UInt8.ofNat (Int.toNat (Int.emod (Int.fdiv (v 0) 1) 256)), UInt8.ofNat (Int.toNat (Int.emod (Int.fdiv (v 1) 16777216) 256)), UInt8.ofNat (Int.toNat (Int.emod (Int.fdiv (v 1) 65536) 256)), UInt8.ofNat (Int.toNat (Int.emod (Int.fdiv (v 1) 256) 256)), UInt8.ofNat (Int.toNat (Int.emod (Int.fdiv (v 1) 1) 256)), UInt8.ofNat (Int.toNat (Int.emod (Int.fdiv (v 2) 16777216) 256)), UInt8.ofNat (Int.toNat (Int.emod (Int.fdiv (v 2) 65536) 256)), UInt8.ofNat (Int.toNat (Int.emod (Int.fdiv (v 2) 256) 256)), UInt8.ofNat (Int.toNat (Int.emod (Int.fdiv (v 2) 1) 256)), UInt8.ofNat (Int.toNat (Int.emod (Int.fdiv (v 3) 16777216) 256)), UInt8.ofNat (Int.toNat (Int.emod (Int.fdiv (v 3) 65536) 256)), UInt8.ofNat (Int.toNat (Int.emod (Int.fdiv (v 3) 256) 256)), UInt8.ofNat (Int.toNat
 (Int.emod (Int.fdiv (v 3) 1) 256)), UInt8.ofNat (Int.toNat (Int.emod (Int.fdiv (v 4) 16777216) 256)), UInt8.ofNat (Int.toNat (Int.emod (Int.fdiv (v 4) 65536) 256)), UInt8.ofNat (Int.toNat (Int.emod (Int.fdiv (v 4) 256) 256)), UInt8.ofNat (Int.toNat (Int.emod (Int.fdiv (v 4) 1) 256)), UInt8.ofNat (Int.toNat (Int.emod (Int.fdiv (v 5) 16777216) 256)), UInt8.ofNat (Int.toNat (Int.emod (Int.fdiv (v 5) 65536) 256)), UInt8.ofNat (Int.toNat (Int.emod (Int.fdiv (v 5) 256) 256)), UInt8.ofNat (Int.toNat (Int.emod (Int.fdiv (v 5) 1) 256)), UInt8.ofNat (Int.toNat (Int.emod (Int.fdiv (v 6) 16777216) 256)), UInt8.ofNat (Int.toNat (Int.emod (Int.fdiv (v 6) 65536) 256)), UInt8.ofNat (Int.toNat (Int.emod (Int.fdiv (v 6) 256) 256)), UInt8.ofNat (Int.toNat (Int.emod (Int.fdiv (v 6) 1) 256)), UInt8.ofNat (Int.toNat (Int.emod (Int.fdiv (v 7) 16777216) 256)), UInt8.ofNat (Int.toNat (Int.emod (Int.fdiv (v 7)
 65536) 256)), UInt8.ofNat (Int.toNat (Int.emod (Int.fdiv (v 7) 256) 256)), UInt8.ofNat (Int.toNat (Int.emod (Int.fdiv (v 7) 1) 256))]))) := by kernel_rfl
theorem byteAsk (x : Int) : (decide (0 ≤ Int.emod x 256) && decide (Int.emod x 256 ≤ 255)) = true := by
  have h1 : 0 ≤ Int.emod x 256 := Int.emod_nonneg _ (by decide)
  have h2 : Int.emod x 256 < 256 := Int.emod_lt_of_pos _ (by decide)
  simp only [Bool.and_eq_true, decide_eq_true_eq]
  exact ⟨h1, by omega⟩
theorem dig_ok (v : Nat → Int) : CallGives PP II 121 [.agg (vAV v)] (AH.blank 12) (.ret (.str (dBytes v)) (AH.blank 12)) := by
  refine of_kb (ks := []) (T := []) (fun _ => rfl) ((dig_vc v _).mpr (Asks.mk ?_ ?_))
  · simp only [byteAsk, Bool.and_true, Bool.true_and, Bool.and_self]
  · rfl
def wordsOk (cs : List AV) : Bool := match cs with
  | [.int .u32 a, .int .u32 b, .int .u32 c, .int .u32 d, .int .u32 e, .int .u32 f, .int .u32 g, .int .u32 h] =>
    [a, b, c, d, e, f, g, h].all fun x => decide (0 ≤ x) && decide (x < 4294967296)
  | _ => false
theorem wordsOk_eq {cs : List AV} (h : wordsOk cs = true) : cs = vAV (pickI cs) ∧ isW (pickI cs) := by
  unfold wordsOk at h
  split at h
  · rename_i a b c d e f g i
    refine ⟨rfl, fun j hj => ?_⟩
    have q : ∀ x ∈ [a, b, c, d, e, f, g, i], 0 ≤ x ∧ x < 4294967296 := fun x hx => by
      have := List.all_eq_true.1 h x hx
      simpa only [Bool.and_eq_true, decide_eq_true_eq] using this
    match j, hj with
    | 0, _ => exact q a (by simp)
    | 1, _ => exact q b (by simp)
    | 2, _ => exact q c (by simp)
    | 3, _ => exact q d (by simp)
    | 4, _ => exact q e (by simp)
    | 5, _ => exact q f (by simp)
    | 6, _ => exact q g (by simp)
    | 7, _ => exact q i (by simp)
    | k + 8, hk => omega
  · cases h
noncomputable def kDig : Known PP II := Known.pure 121
  (fun X args kn => match args with
    | [.agg cs] => X.assert (wordsOk cs) (kn (.str (dBytes (pickI cs))))
    | _ => X.fail)
  fun X sem hX args kn h => by
    split at h
    · rename_i cs
      obtain ⟨h1, h2⟩ := hX.assert _ _ h
      obtain ⟨e, _⟩ := wordsOk_eq h1
      refine ⟨_, h2, fun σ => rfl, fun σ => ?_, ?_⟩
      · rw [e]; rfl
      · rw [e]; exact dig_ok _
    · exact absurd h hX.fail
theorem CallGives.fzArg2 {P : Program} {I : Info} {f : FuncId} {p x x' : AV} {H H' : AH} {o : CO} (hf : FrzGives x H x' H') (h : CallGives P I f [p, x'] H' o) : CallGives P I f [p, x] H o := by
  intro c ρ w vs hG hv hr
  obtain ⟨u, us, rfl, g1, g2⟩ := (by simpa only [VRs] using hv : ∃ u us, vs = u :: us ∧ VR ρ p u ∧ VRs ρ [x] us)
  obtain ⟨z, zs, rfl, g3, g4⟩ := (by simpa only [VRs] using g2 : ∃ z zs, us = z :: zs ∧ VR ρ x z ∧ VRs ρ [] zs)
  obtain ⟨ρ1, h1, h2, h3⟩ := hf.2 c ρ w z hr g3
  have post : ∀ e w', o.post c ρ1 e w' → o.post c ρ e w' := fun e w' hp => CO.post_ext h1 hp
  have hv' : VRs ρ1 [p, x'] (u :: z :: zs) := VRs.cons_iff.2 ⟨VR.ext h1 _ _ g1, VRs.cons_iff.2 ⟨VR.ext (Ext.of_bare ρ1) _ _ h3, by simpa only [VRs] using g4⟩⟩
  rcases h c ρ1 w _ hG hv' h2 with ⟨k1, k2⟩ | ⟨v, w', k1, k2⟩
  · exact .inl ⟨k1, k2.mono post⟩
  · exact .inr ⟨v, w', k1, post _ _ k2⟩
theorem add_any {H : AH} {l : Nat} {b v : Nat → Int} (hG : 12 ≤ l) (hl : l < H.n) (h2 : H.get 2 = .cells constAVs .ro) (hv : H.get l = .cells (vAV v) (.ty 204)) (hb : isB b) (hw : isW v) :
    CallGives PP II 120 [.ptr l 0 0 0, blkAV b] H (.ret (.tup []) (H.set l (.cells (vAV (addI b v)) (.ty 204)))) := by
  have hc : ∀ σ, (ABlk.cells constAVs .ro).ren σ = .cells constAVs .ro := fun σ => by
    show ABlk.cells (AVs.ren σ constAVs) .ro = _
    rfl
  have g2 : ∀ v, (hAdd v).get 2 = .cells constAVs .ro := fun v => rfl
  have g12 : ∀ v, (hAdd v).get 12 = .cells (vAV v) (.ty 204) := fun v => rfl
  have hset : (hAdd v).set 12 (.cells (vAV (addI b v)) (.ty 204)) = hAdd (addI b v) := rfl
  have h := add_ok hb hw
  rw [← hset] at h
  have dead : ∀ i, i ≠ 2 → i ≠ 12 → (hAdd v).get i = .dead := fun i e1 e2 => by
    show AH.get { n := 13, t := Tr.ofList [(2, _), (12, _)] } i = _
    simp only [AH.get, Tr.ofList, List.foldl, Tr.get_set, Tr.get_e]
    simp [e1, e2]
  refine CallGives.lift1g (I := II) (args := [.ptr 12 0 0 0, blkAV b]) (args' := [.ptr l 0 0 0, blkAV b]) (a := .tup []) (H0 := hAdd v) h rfl (fun i hi => ?_) (fun i hi hd => ?_) hG hl (hv.trans (g12 v).symm) (fun σ => ?_) (fun σ => rfl) (fun σ e => ?_) (fun σ e => rfl) (fun e => ?_)
  · have hi : 13 ≤ i := hi
    exact dead i (by omega) (by omega)
  · have hi : i < 12 := hi
    by_cases e : i = 2
    · rw [e]; exact ⟨h2.trans (g2 v).symm, hc⟩
    · exact absurd (dead i e (by omega)) hd
  · show ((hAdd v).get 12).ren σ = (hAdd v).get 12
    rw [g12]; rfl
  · have e : σ 12 = l := e
    show [AV.ptr (σ 12) 0 0 0, blkAV b] = _
    rw [e]
  · have e : (hAdd v).get 12 = .dead := e
    rw [g12] at e; cases e
noncomputable def kAdd : Known PP II where
  f := 120
  spec X args H kn _ := match args with
    | [.ptr l 0 0 0, x] => frz X 100000 x H fun x' H' => match x', H'.get l with
      | .fslice n 1 f, .cells cs (.ty 204) => X.assert (decide (n = 64)) (X.assert (bytesOk 64 f) (X.assert (wordsOk cs) (X.assert (roInts constAVs (H'.get 2) && Nat.ble 12 l && Nat.blt l H'.n) (kn (.tup []) (H'.set l (.cells (vAV (addI (byteOf f) (pickI cs))) (.ty 204)))))))
      | _, _ => X.fail
    | _ => X.fail
  ok X sem hX args H kn kp h := by
    split at h
    · rename_i l x
      obtain ⟨x', H', h1, h2⟩ := frz_ok hX _ _ _ _ h
      split at h1
      · rename_i n f cs hcs
        obtain ⟨e0, k1⟩ := hX.assert _ _ h1
        obtain ⟨e1, k2⟩ := hX.assert _ _ k1
        obtain ⟨e2, k3⟩ := hX.assert _ _ k2
        obtain ⟨e3, k4⟩ := hX.assert _ _ k3
        have e0 : n = 64 := of_decide_eq_true e0
        subst e0
        simp only [Bool.and_eq_true, Nat.blt_eq] at e3
        obtain ⟨e4, e5⟩ := wordsOk_eq e2
        refine ⟨.ret (.tup []) _, k4, ?_⟩
        have hk := (add_any (b := byteOf f) (Nat.le_of_ble_eq_true e3.1.2) e3.2 (roInts_eq e3.1.1) (by rw [hcs, ← e4]) (fun i hi => (bytesOk_at e1 hi).2) e5)
        have hk' : CallGives PP II 120 [.ptr l 0 0 0, .fslice 64 1 f] H' _ := hk.argsLe ⟨by simp [AV.le], ⟨rfl, rfl, fun i hi => by rw [(bytesOk_at e1 hi).1]; exact ⟨⟨rfl, rfl⟩, trivial⟩⟩, trivial⟩
        exact hk'.fzArg2 h2
      · exact absurd h1 hX.fail
    · exact absurd h hX.fail
end Go.Sx
end
section
set_option maxRecDepth 1000000
namespace Go.Sx
open Go
noncomputable def HB : AH := { n := 12, t := Tr.ofList [(2, .cells constAVs .ro)] }
def ivI (j : Nat) : Int := match j with | 0 => 0x6a09e667 | 1 => 0xbb67ae85 | 2 => 0x3c6ef372 | 3 => 0xa54ff53a | 4 => 0x510e527f | 5 => 0x9b05688c | 6 => 0x1f83d9ab | 7 => 0x5be0cd19 | _ => 0
noncomputable def h77 (v : Nat → Int) (l : List UInt8) : AH := { n := 17, t := Tr.ofList [(2, .cells constAVs .ro), (12, .cells (vAV v) (.ty 204)), (16, .str l (.ty 5))] }
noncomputable def s77a (s : List UInt8) (l : List UInt8) : St := { t := Tr.ofList [(0, .str s), (2, .str []), (3, .ptr 12 0 0 0), (4, .own 16 l.length 1)], nt := 40, H := h77 ivI l, df := [] }
noncomputable def e77a (s r : List UInt8) : GE := .one (.x 0 (s77a s r))
noncomputable def h77b (l : List UInt8) : AH := { n := 18, t := Tr.ofList [(2, .cells constAVs .ro), (12, .cells (vAV ivI) (.ty 204)), (17, .str l (.ty 5))] }
noncomputable def s77b (s : List UInt8) (i : Int × List UInt8) : St := { t := Tr.ofList [(0, .str s), (2, .str []), (3, .ptr 12 0 0 0), (4, .own 17 i.2.length 1), (5, .int .i64 i.1)], nt := 40, H := h77b i.2, df := [] }
noncomputable def e77b (s r : List UInt8) : GE := .one (.x 2 { t := Tr.ofList [(0, .str s), (2, .str []), (3, .ptr 12 0 0 0), (4, .own 17 r.length 1)], nt := 40, H := h77b r, df := [] })
def accB : Bool → Access | true => .ro | false => .ty 5
noncomputable def h162 (l : List UInt8) (b : Bool) (v : Nat → Int) : AH := { n := 22, t := Tr.ofList [(2, .cells constAVs .ro), (12, .cells (vAV v) (.ty 204)), (17, .str l (accB b)), (18, .cells [.own 17 l.length 1] (.ty 151)), (19, .cells [.int .i64 64] (.ty 3)), (20, .dfr), (21, .loop .ready none (Tr.ofList [(2, .str []), (3, .ptr 12 0 0 0)]) 40 [35] (rangeAs II 77) (rangeBd II 77) 20)] }
noncomputable def s162 (l : List UInt8) (i : Bool × Int × (Nat → Int)) : St := { t := Tr.ofList [(0, .yield 21), (1, .ptr 18 0 0 0), (2, .ptr 19 0 0 0), (4, .int .i64 i.2.1)], nt := 31, H := h162 l i.1 i.2.2, df := [] }
noncomputable def e162 (v : Nat → Int) : GE := .one (.x 0 { t := .e, nt := 31, H := { n := 22, t := Tr.ofList [(2, .cells constAVs .ro), (12, .cells (vAV v) (.ty 204)), (20, .dfr), (21, .loop .ready none (Tr.ofList [(2, .str []), (3, .ptr 12 0 0 0)]) 40 [35] (rangeAs II 77) (rangeBd II 77) 20)] }, df := [] })
def lenB (s : List UInt8) (i : Int) : UInt8 := UInt8.ofNat (Int.toNat (Int.emod (Int.fdiv ((8 : Int) * Int.ofNat (List.length s)) (Int.pow (2 : Int) (if Int.toNat ((8 : Int) * i) ≤ (64 : Nat) then Int.toNat ((8 : Int) * i) else (64 : Nat)))) (256 : Int)))
def padA (s : List UInt8) (k : Nat) : List UInt8 := s ++ [128] ++ List.replicate k 0
def padZ (n : Nat) : Nat := (119 - n % 64) % 64
def padB (s l : List UInt8) (k : Nat) : List UInt8 := l ++ (List.range k).map fun j : Nat => lenB s (7 - (j : Int))
def padF (s : List UInt8) : List UInt8 := padB s (padA s (padZ s.length)) 8
abbrev blkB (l : List UInt8) (i : Int) : Nat → Int := byteOf fun j => byteRow l (Int.toNat i + j)
def blksI (l : List UInt8) : Nat → Nat → Int
  | 0 => ivI
  | k + 1 => addI (blkB l (64 * (k : Int))) (pickI (vAV (blksI l k)))
def sumF (s : List UInt8) : List UInt8 := dBytes (pickI (vAV (blksI (padF s) ((padF s).length / 64))))
theorem sum_stepA (s l r : List UInt8) (Q : Prop) : (kr [] [] 77 3004 16 (s77a s) (fun _ => e77a s r) (fun l => l ++ [0]) Q l) = (Cond (!decide (Int.tmod (Int.ofNat (List.length l)) 64 = 56)) (Asks (decide (List.length l ≤ List.length l) && true && true && decide ((List.length l + 1) * 1 ≤ 140737488355328) && (decide (List.length l = List.length l) && true)) (EqB (List.append l [{ toBitVec := { toFin := ⟨0, Nat.mod_lt 0 (BitVec.ofNat._proof_1 8)⟩ } }]) (List.append l [{ toBitVec := { toFin := ⟨0, Nat.mod_lt 0 (BitVec.ofNat._proof_1 8)⟩ } }]) (EqB s s (EqN (List.length l + 1) (List.length (List.append l [{ toBitVec := { toFin := ⟨0, Nat.mod_lt 0 (BitVec.ofNat._proof_1 8)⟩ } }])) (EqB [] [] Q))))) (EqB l r (EqB s s (EqN (List.length l) (List.length r) (EqB [] [] True))))) := by kernel_rfl
theorem sum_stepB (s l r : List UInt8) (i : Int) (lenB : Int → UInt8) (Q : Prop) : (kr [] [] 77 6002 17 (s77b s) (fun _ => e77b s r) (fun i => (i.1 - 1, i.2 ++ [lenB i.1])) Q (i, l)) = (Cond (decide (i ≥ 0)) (Asks (inR .i64 (8 * Int.ofNat (List.length s))) (Asks (inR .i64 (8 * i)) (Asks (decide (0 ≤ 8 * i)) (Asks (decide (List.length l ≤ List.length l) && true && true && decide ((List.length l + 1) * 1 ≤ 140737488355328) && (decide (List.length l = List.length l) && (decide (0 ≤ Int.emod (Int.fdiv (8 * Int.ofNat (List.length s)) (Int.pow 2 (if Int.toNat (8 * i) ≤ 64 then Int.toNat (8 * i) else 64))) 256) && decide (Int.emod (Int.fdiv (8 * Int.ofNat (List.length s)) (Int.pow 2 (if Int.toNat (8 * i) ≤ 64 then Int.toNat (8 * i) else 64))) 256 ≤ 255) && true))) (Asks (inR .i64 (i - 1)) (EqB (List.append l [UInt8.ofNat (Int.toNat (Int.emod (Int.fdiv (8 * Int.ofNat (List.length s)) (Int.pow 2
 (if Int.toNat (8 * i) ≤ 64 then Int.toNat (8 * i) else 64))) 256))]) (List.append l [lenB i]) (EqI (i - 1) (i - 1) (EqB s s (EqN (List.length l + 1) (List.length (List.append l [lenB i])) (EqB [] [] Q)))))))))) (EqB l r (EqB s s (EqN (List.length l) (List.length r) (EqB [] [] True))))) := by kernel_rfl
theorem sum_step0 (l : List UInt8) (i : Int) (v r : Nat → Int) (nxt : Int → (Nat → Int) → Nat → Int) (Q : Prop) : (kr [kAdd] [] 162 1004 22 (s162 l) (fun _ => e162 r) (fun i => (true, i.2.1 + 64, nxt i.2.1 i.2.2)) Q (false, i, v)) = (let zz1 := (i + if Int.ofNat (Int.toNat (Int.ofNat (List.length l) - i)) < 64 then Int.ofNat (Int.toNat (Int.ofNat (List.length l) - i)) else 64); (Cond (decide (i < Int.ofNat (List.length l))) (Asks (decide (0 ≤ i) && decide (i ≤ Int.ofNat (List.length l)) && decide (Int.ofNat (List.length l) ≤ Int.ofNat (List.length l)) && decide (0 < List.length l)) (Asks (inR .i64 zz1) (Asks (inR .i64 zz1) (Asks (decide (0 ≤ i) && decide (i ≤ i + if Int.ofNat (Int.toNat (Int.ofNat (List.length l) - i)) < 64 then Int.ofNat (Int.toNat (Int.ofNat (List.length l) - i)) else 64) && decide (zz1 ≤ i + if Int.ofNat (Int.toNat (Int.ofNat (List.length l) - i)) < 64 then Int.ofNat
 (Int.toNat (Int.ofNat (List.length l) - i)) else 64) && decide (zz1 ≤ Int.ofNat (List.length l)) && decide (0 < List.length l)) (Asks (decide (Int.toNat i + Int.toNat (zz1 - i) ≤ List.length l)) (Asks (decide (Int.toNat (zz1 - i) = 64)) (Asks (bytesOk 64 fun i_1 => byteRow l (Int.toNat i + i_1)) (Asks (wordsOk (vAV v)) (Asks (inR .i64 (i + 64)) (SameCode (rangeAs II 77) (rangeAs II 77) ∧ SameCode (rangeBd II 77) (rangeBd II 77) ∧ EqB [] [] (EqN (List.length l) (List.length l) (EqB l l (EqI (addI (byteOf fun i_1 => byteRow l (Int.toNat i + i_1)) (pickI (vAV v)) 0) (nxt i v 0) (EqI (addI (byteOf fun i_1 => byteRow l (Int.toNat i + i_1)) (pickI (vAV v)) 1) (nxt i v 1) (EqI (addI (byteOf fun i_1 => byteRow l (Int.toNat i + i_1)) (pickI (vAV v)) 2) (nxt i v 2) (EqI (addI (byteOf fun i_1 => byteRow l (Int.toNat i + i_1)) (pickI (vAV v)) 3) (nxt i v 3) (EqI (addI (byteOf fun i_1 => byteRow l
 (Int.toNat i + i_1)) (pickI (vAV v)) 4) (nxt i v 4) (EqI (addI (byteOf fun i_1 => byteRow l (Int.toNat i + i_1)) (pickI (vAV v)) 5) (nxt i v 5) (EqI (addI (byteOf fun i_1 => byteRow l (Int.toNat i + i_1)) (pickI (vAV v)) 6) (nxt i v 6) (EqI (addI (byteOf fun i_1 => byteRow l (Int.toNat i + i_1)) (pickI (vAV v)) 7) (nxt i v 7) (EqI (i + 64) (i + 64) Q))))))))))))))))))))) (SameCode (rangeAs II 77) (rangeAs II 77) ∧ SameCode (rangeBd II 77) (rangeBd II 77) ∧ EqB [] [] (EqI (v 0) (r 0) (EqI (v 1) (r 1) (EqI (v 2) (r 2) (EqI (v 3) (r 3) (EqI (v 4) (r 4) (EqI (v 5) (r 5) (EqI (v 6) (r 6) (EqI (v 7) (r 7) True))))))))))) := by kernel_rfl
theorem sum_step1 (l : List UInt8) (i : Int) (v r : Nat → Int) (nxt : Int → (Nat → Int) → Nat → Int) (Q : Prop) : (kr [kAdd] [] 162 1004 22 (s162 l) (fun _ => e162 r) (fun i => (true, i.2.1 + 64, nxt i.2.1 i.2.2)) Q (true, i, v)) = (let zz1 := (i + if Int.ofNat (Int.toNat (Int.ofNat (List.length l) - i)) < 64 then Int.ofNat (Int.toNat (Int.ofNat (List.length l) - i)) else 64); (Cond (decide (i < Int.ofNat (List.length l))) (Asks (decide (0 ≤ i) && decide (i ≤ Int.ofNat (List.length l)) && decide (Int.ofNat (List.length l) ≤ Int.ofNat (List.length l)) && decide (0 < List.length l)) (Asks (inR .i64 zz1) (Asks (inR .i64 zz1) (Asks (decide (0 ≤ i) && decide (i ≤ i + if Int.ofNat (Int.toNat (Int.ofNat (List.length l) - i)) < 64 then Int.ofNat (Int.toNat (Int.ofNat (List.length l) - i)) else 64) && decide (zz1 ≤ i + if Int.ofNat (Int.toNat (Int.ofNat (List.length l) - i)) < 64 then Int.ofNat
 (Int.toNat (Int.ofNat (List.length l) - i)) else 64) && decide (zz1 ≤ Int.ofNat (List.length l)) && decide (0 < List.length l)) (Asks (decide (Int.toNat i + Int.toNat (zz1 - i) ≤ List.length l)) (Asks (decide (Int.toNat (zz1 - i) = 64)) (Asks (bytesOk 64 fun i_1 => byteRow l (Int.toNat i + i_1)) (Asks (wordsOk (vAV v)) (Asks (inR .i64 (i + 64)) (SameCode (rangeAs II 77) (rangeAs II 77) ∧ SameCode (rangeBd II 77) (rangeBd II 77) ∧ EqB [] [] (EqN (List.length l) (List.length l) (EqB l l (EqI (addI (byteOf fun i_1 => byteRow l (Int.toNat i + i_1)) (pickI (vAV v)) 0) (nxt i v 0) (EqI (addI (byteOf fun i_1 => byteRow l (Int.toNat i + i_1)) (pickI (vAV v)) 1) (nxt i v 1) (EqI (addI (byteOf fun i_1 => byteRow l (Int.toNat i + i_1)) (pickI (vAV v)) 2) (nxt i v 2) (EqI (addI (byteOf fun i_1 => byteRow l (Int.toNat i + i_1)) (pickI (vAV v)) 3) (nxt i v 3) (EqI (addI (byteOf fun i_1 => byteRow l
 (Int.toNat i + i_1)) (pickI (vAV v)) 4) (nxt i v 4) (EqI (addI (byteOf fun i_1 => byteRow l (Int.toNat i + i_1)) (pickI (vAV v)) 5) (nxt i v 5) (EqI (addI (byteOf fun i_1 => byteRow l (Int.toNat i + i_1)) (pickI (vAV v)) 6) (nxt i v 6) (EqI (addI (byteOf fun i_1 => byteRow l (Int.toNat i + i_1)) (pickI (vAV v)) 7) (nxt i v 7) (EqI (i + 64) (i + 64) Q))))))))))))))))))))) (SameCode (rangeAs II 77) (rangeAs II 77) ∧ SameCode (rangeBd II 77) (rangeBd II 77) ∧ EqB [] [] (EqI (v 0) (r 0) (EqI (v 1) (r 1) (EqI (v 2) (r 2) (EqI (v 3) (r 3) (EqI (v 4) (r 4) (EqI (v 5) (r 5) (EqI (v 6) (r 6) (EqI (v 7) (r 7) True))))))))))) := by kernel_rfl
theorem sum_vc (s r1 r2 r : List UInt8) (v : Nat → Int) : (kbody [kAdd, kDig] (lamT PP II [(3004, 16, s77a s (padA s 0), e77a s r1), (6002, 17, s77b s (7, r1), e77b s r2), (1004, 22, s162 r2 (false, 0, ivI), e162 v)]) 1000 77 [.str s] HB (fun a H => ResLq HB.n a H (.str r) HB True) (fun _ _ => False)) = (Asks (decide (0 + List.length s ≤ List.length s) && true && true && decide ((List.length s + 1) * 1 ≤ 140737488355328) && (decide (List.length s = List.length s) && true)) (LoopAt PP II false (loopOf II 77 3004) 16 (s77a s (padA s 0)) (e77a s r1) ∧ EqB (List.append s [{ toBitVec := { toFin := ⟨128, Nat.mod_lt 128 (BitVec.ofNat._proof_1 8)⟩ } }]) (padA s 0) (EqB s s (EqN (List.length s + 1) (List.length (padA s 0)) (EqB [] [] (LoopAt PP II false (loopOf II 77 6002) 17 (s77b s (7, r1)) (e77b s r2) ∧ EqB r1 r1 (EqB s s (EqN (List.length r1) (List.length r1) (EqB [] [] (LoopAt PP II false
 (loopOf II 162 1004) 22 (s162 r2 (false, 0, ivI)) (e162 v) ∧ SameCode (rangeAs II 77) (rangeAs II 77) ∧ SameCode (rangeBd II 77) (rangeBd II 77) ∧ EqB [] [] (EqN (List.length r2) (List.length r2) (EqB r2 r2 (Asks (wordsOk [AV.int .u32 (v 0), AV.int .u32 (v 1), AV.int .u32 (v 2), AV.int .u32 (v 3), AV.int .u32 (v 4), AV.int .u32 (v 5), AV.int .u32 (v 6), AV.int .u32 (v 7)]) (EqB (dBytes (pickI [AV.int .u32 (v 0), AV.int .u32 (v 1), AV.int .u32 (v 2), AV.int .u32 (v 3), AV.int .u32 (v 4), AV.int .u32 (v 5), AV.int .u32 (v 6), AV.int .u32 (v 7)])) r True)))))))))))))) := by kernel_rfl
theorem sameCode (c : Code) : SameCode c c := rfl
theorem lenAsk0 {n : Nat} (h : n ≤ 1000000) : (decide (0 + n ≤ n) && true && true && decide ((n + 1) * 1 ≤ 140737488355328) && (decide (n = n) && true)) = true := by
  rw [decide_eq_true (show 0 + n ≤ n by omega), decide_eq_true (show (n + 1) * 1 ≤ 140737488355328 by omega), decide_eq_true (rfl : n = n)]; rfl
theorem padZ_step {n k : Nat} (hk : k ≤ padZ n) : (n + 1 + k) % 64 = 56 ↔ k = padZ n := by
  unfold padZ at *
  omega
theorem padA_len (s : List UInt8) (k : Nat) : (padA s k).length = s.length + 1 + k := by simp [padA]; omega
theorem padA_succ (s : List UInt8) (k : Nat) : padA s k ++ [0] = padA s (k + 1) := by
  unfold padA
  rw [List.append_assoc, ← List.replicate_succ']
theorem tmod64 (n : Nat) : Int.tmod (Int.ofNat n) 64 = ((n % 64 : Nat) : Int) := rfl
theorem lenAsk {n : Nat} (h : n ≤ 1000000) : (decide (n ≤ n) && true && true && decide ((n + 1) * 1 ≤ 140737488355328) && (decide (n = n) && true)) = true := by
  rw [decide_eq_true (Nat.le_refl n), decide_eq_true (show (n + 1) * 1 ≤ 140737488355328 by omega), decide_eq_true (rfl : n = n)]; rfl
theorem lenAsk2 {n : Nat} {x : Int} (h : n ≤ 1000000) : (decide (n ≤ n) && true && true && decide ((n + 1) * 1 ≤ 140737488355328) && (decide (n = n) && (decide (0 ≤ Int.emod x 256) && decide (Int.emod x 256 ≤ 255) && true))) = true := by
  rw [byteAsk, decide_eq_true (Nat.le_refl n), decide_eq_true (show (n + 1) * 1 ≤ 140737488355328 by omega), decide_eq_true (rfl : n = n)]; rfl
theorem sumA_loop {s : List UInt8} (hs : s.length ≤ 900000) : LoopAt PP II false (loopOf II 77 3004) 16 (s77a s (padA s 0)) (e77a s (padA s (padZ s.length))) :=
  LoopAt.of (ι := List UInt8) hII [] (lamT_ok PP II []) 1000 16 (fun l => ∃ k, k ≤ padZ s.length ∧ l = padA s k) (s77a s) (fun _ => e77a s (padA s (padZ s.length))) (fun l => s.length + 1 + padZ s.length - l.length) (fun l => l ++ [0]) (padA s 0) rfl
    ⟨0, Nat.zero_le _, rfl⟩ fun l hl => by
    obtain ⟨k, hk, rfl⟩ := hl
    have hz : padZ s.length < 64 := Nat.mod_lt _ (by omega)
    refine (sum_stepA s (padA s k) (padA s (padZ s.length)) _).mpr ?_
    have hlen := padA_len s k
    have e0 : Int.tmod (Int.ofNat (List.length (padA s k))) 64 = (((s.length + 1 + k) % 64 : Nat) : Int) := by rw [tmod64, hlen]
    rw [e0]
    refine Cond.mk (fun h => ?_) fun h => ?_
    · simp only [Bool.not_eq_true', decide_eq_false_iff_not] at h
      have hne : k ≠ padZ s.length := fun e => h (by have := (padZ_step hk).2 e; omega)
      refine Asks.mk (lenAsk (by omega)) (EqB.mk rfl (EqB.mk rfl (EqN.mk ?_ (EqB.mk rfl ⟨⟨k + 1, by omega, padA_succ s k⟩, ?_, rfl⟩))))
      · show _ = (padA s k ++ [0]).length
        simp
      · show _ - (padA s k ++ [0]).length < _
        rw [padA_succ, padA_len, hlen]; omega
    · simp only [Bool.not_eq_false', decide_eq_true_eq] at h
      have : k = padZ s.length := (padZ_step hk).1 (by omega)
      subst this
      exact EqB.mk rfl (EqB.mk rfl (EqN.mk rfl (EqB.mk rfl trivial)))
theorem padB_len (s l : List UInt8) (k : Nat) : (padB s l k).length = l.length + k := by simp [padB]
theorem padB_succ (s l : List UInt8) (k : Nat) : padB s l k ++ [lenB s (7 - (k : Int))] = padB s l (k + 1) := by
  unfold padB
  rw [List.range_succ, List.map_append, List.append_assoc]
  rfl
theorem sumB_loop {s l : List UInt8} (hs : s.length ≤ 900000) (hl : l.length ≤ 990000) : LoopAt PP II false (loopOf II 77 6002) 17 (s77b s (7, l)) (e77b s (padB s l 8)) :=
  LoopAt.of (ι := Int × List UInt8) hII [] (lamT_ok PP II []) 1000 17 (fun i => ∃ k : Nat, k ≤ 8 ∧ i.1 = 7 - (k : Int) ∧ i.2 = padB s l k) (s77b s) (fun _ => e77b s (padB s l 8)) (fun i => (i.1 + 1).toNat) (fun i => (i.1 - 1, i.2 ++ [lenB s i.1])) (7, l) rfl
    ⟨0, by omega, rfl, (List.append_nil l).symm⟩ fun i hi => by
    obtain ⟨i, l'⟩ := i
    obtain ⟨k, hk, h1, h2⟩ := hi
    change i = 7 - (k : Int) at h1
    change l' = padB s l k at h2
    have hlen : l'.length = l.length + k := by rw [h2, padB_len]
    refine (sum_stepB s l' (padB s l 8) i (lenB s) _).mpr (Cond.mk (fun h => ?_) fun h => ?_)
    · simp only [decide_eq_true_eq] at h
      have hk : k < 8 := by omega
      refine Asks.mk (inR_small (by have : (0 : Int) ≤ Int.ofNat s.length := Int.natCast_nonneg _; omega) (by have : Int.ofNat s.length = ((s.length : Nat) : Int) := rfl; omega)) (Asks.mk (inR_small (by omega) (by omega)) (Asks.mk (decide_eq_true (by omega)) (Asks.mk (lenAsk2 (by omega)) (Asks.mk (inR_small (by omega) (by omega)) (EqB.mk rfl (EqI.mk rfl (EqB.mk rfl (EqN.mk ?_ (EqB.mk rfl ⟨⟨k + 1, by omega, by show i - 1 = _; omega, ?_⟩, ?_, rfl⟩)))))))))
      · show _ = (l' ++ [lenB s i]).length
        simp
      · show l' ++ [lenB s i] = _
        rw [h1, h2, padB_succ]
      · show (i - 1 + 1).toNat < (i + 1).toNat; omega
    · simp only [decide_eq_false_iff_not] at h
      have : k = 8 := by omega
      subst this
      rw [h2]
      exact EqB.mk rfl (EqB.mk rfl (EqN.mk rfl (EqB.mk rfl trivial)))
theorem padF_len (s : List UInt8) : (padF s).length = s.length + 9 + padZ s.length ∧ (padF s).length % 64 = 0 := by
  unfold padF
  rw [padB_len, padA_len]
  unfold padZ
  omega
theorem wordsOk_of {v : Nat → Int} (h : isW v) : wordsOk (vAV v) = true := by
  refine List.all_eq_true.2 fun x hx => ?_
  have : ∃ j, j < 8 ∧ x = v j := by
    simp only [List.mem_cons, List.not_mem_nil, or_false] at hx
    rcases hx with e | e | e | e | e | e | e | e
    · exact ⟨0, by omega, e⟩
    · exact ⟨1, by omega, e⟩
    · exact ⟨2, by omega, e⟩
    · exact ⟨3, by omega, e⟩
    · exact ⟨4, by omega, e⟩
    · exact ⟨5, by omega, e⟩
    · exact ⟨6, by omega, e⟩
    · exact ⟨7, by omega, e⟩
  obtain ⟨j, hj, rfl⟩ := this
  simp only [Bool.and_eq_true, decide_eq_true_eq]
  exact h j hj
theorem ivI_w : isW ivI := fun j hj => by
  match j, hj with
  | 0, _ | 1, _ | 2, _ | 3, _ | 4, _ | 5, _ | 6, _ | 7, _ => exact ⟨by decide, by decide⟩
  | k + 8, hk => omega
theorem blksI_w (l : List UInt8) : ∀ k, isW (blksI l k)
  | 0 => ivI_w
  | _ + 1 => addI_w
theorem bytesRow (l : List UInt8) (i : Nat) : bytesOk 64 (fun j => byteRow l (i + j)) = true := List.all_eq_true.2 fun j _ => by
  show (decide (0 ≤ ((l.getD (i + j) 0).toNat : Int)) && decide (((l.getD (i + j) 0).toNat : Int) < 256)) = true
  have := UInt8.toNat_lt (l.getD (i + j) 0)
  simp only [Bool.and_eq_true, decide_eq_true_eq]; omega
theorem sumC_loop {l : List UInt8} (h64 : l.length % 64 = 0) (h0 : 0 < l.length) (hl : l.length ≤ 1000000) : LoopAt PP II false (loopOf II 162 1004) 22 (s162 l (false, 0, ivI)) (e162 (blksI l (l.length / 64))) :=
  LoopAt.of (ι := Bool × Int × (Nat → Int)) hII [kAdd] (lamT_ok PP II []) 1000 22 (fun i => ∃ k : Nat, 64 * k ≤ l.length ∧ i.2.1 = 64 * (k : Int) ∧ i.2.2 = blksI l k) (s162 l) (fun _ => e162 (blksI l (l.length / 64))) (fun i => (l.length - i.2.1).toNat) (fun i => (true, i.2.1 + 64, addI (blkB l i.2.1) (pickI (vAV i.2.2)))) (false, 0, ivI) rfl
    ⟨0, by omega, rfl, rfl⟩ fun i hi => by
    obtain ⟨b, i, v⟩ := i
    obtain ⟨k, hk, h1, h2⟩ := hi
    change i = 64 * (k : Int) at h1
    change v = blksI l k at h2
    have hv : isW v := by rw [h2]; exact blksI_w l k
    have eL : Int.ofNat (List.length l) = (l.length : Int) := rfl
    cases b with
    | false =>
      refine (sum_step0 l i v (blksI l (l.length / 64)) (fun i v => addI (blkB l i) (pickI (vAV v))) _).mpr (Cond.mk (fun h => ?_) fun h => ?_)
      · simp only [decide_eq_true_eq] at h
        have hk : 64 * (k + 1) ≤ l.length := by omega
        have em : (if Int.ofNat (Int.toNat (Int.ofNat (List.length l) - i)) < (64 : Int) then Int.ofNat (Int.toNat (Int.ofNat (List.length l) - i)) else (64 : Int)) = 64 := by
          rw [if_neg]
          show ¬ ((Int.toNat (Int.ofNat (List.length l) - i) : Nat) : Int) < 64
          omega
        rw [em]
        repeat' (first | with_reducible exact trivial | with_reducible rfl | fail | with_reducible refine EqN.mk ?_ ?_ | with_reducible refine EqI.mk ?_ ?_ | with_reducible refine EqB.mk ?_ ?_ | with_reducible refine Asks.mk ?_ ?_ | with_reducible refine And.intro ?_ ?_)
        all_goals first | with_reducible exact sameCode _ | with_reducible exact wordsOk_of hv | with_reducible exact bytesRow _ _ | (simp only [Bool.and_eq_true, decide_eq_true_eq, eL]; omega) | exact inR_small (by omega) (by omega) | skip
        · exact ⟨k + 1, hk, by show i + 64 = _; omega, by show addI _ _ = _; rw [h1, h2]; rfl⟩
      · simp only [decide_eq_false_iff_not] at h
        have : k = l.length / 64 := by omega
        subst this
        rw [h2]
        repeat' (first | with_reducible exact trivial | with_reducible rfl | fail | with_reducible refine EqN.mk ?_ ?_ | with_reducible refine EqI.mk ?_ ?_ | with_reducible refine EqB.mk ?_ ?_ | with_reducible refine Asks.mk ?_ ?_ | with_reducible refine And.intro ?_ ?_)
        all_goals exact sameCode _
    | true =>
      refine (sum_step1 l i v (blksI l (l.length / 64)) (fun i v => addI (blkB l i) (pickI (vAV v))) _).mpr (Cond.mk (fun h => ?_) fun h => ?_)
      · simp only [decide_eq_true_eq] at h
        have hk : 64 * (k + 1) ≤ l.length := by omega
        have em : (if Int.ofNat (Int.toNat (Int.ofNat (List.length l) - i)) < (64 : Int) then Int.ofNat (Int.toNat (Int.ofNat (List.length l) - i)) else (64 : Int)) = 64 := by
          rw [if_neg]
          show ¬ ((Int.toNat (Int.ofNat (List.length l) - i) : Nat) : Int) < 64
          omega
        rw [em]
        repeat' (first | with_reducible exact trivial | with_reducible rfl | fail | with_reducible refine EqN.mk ?_ ?_ | with_reducible refine EqI.mk ?_ ?_ | with_reducible refine EqB.mk ?_ ?_ | with_reducible refine Asks.mk ?_ ?_ | with_reducible refine And.intro ?_ ?_)
        all_goals first | with_reducible exact sameCode _ | with_reducible exact wordsOk_of hv | with_reducible exact bytesRow _ _ | (simp only [Bool.and_eq_true, decide_eq_true_eq, eL]; omega) | exact inR_small (by omega) (by omega) | skip
        · exact ⟨k + 1, hk, by show i + 64 = _; omega, by show addI _ _ = _; rw [h1, h2]; rfl⟩
      · simp only [decide_eq_false_iff_not] at h
        have : k = l.length / 64 := by omega
        subst this
        rw [h2]
        repeat' (first | with_reducible exact trivial | with_reducible rfl | fail | with_reducible refine EqN.mk ?_ ?_ | with_reducible refine EqI.mk ?_ ?_ | with_reducible refine EqB.mk ?_ ?_ | with_reducible refine Asks.mk ?_ ?_ | with_reducible refine And.intro ?_ ?_)
        all_goals exact sameCode _
theorem sum_ok {s : List UInt8} (hs : s.length ≤ 900000) : CallGives PP II 77 [.str s] HB (.ret (.str (sumF s)) HB) := by
  have hp := padF_len s
  have hz : padZ s.length < 64 := Nat.mod_lt _ (by omega)
  have hlen := padA_len s (padZ s.length)
  have hv := sum_vc s (padA s (padZ s.length)) (padF s) (sumF s) (blksI (padF s) ((padF s).length / 64))
  refine CallGives.of_heap hII [kAdd, kDig] (lamT_ok PP II [(3004, 16, s77a s (padA s 0), e77a s (padA s (padZ s.length))), (6002, 17, s77b s (7, padA s (padZ s.length)), e77b s (padF s)), (1004, 22, s162 (padF s) (false, 0, ivI), e162 (blksI (padF s) ((padF s).length / 64)))]) 1000 ?_
  rw [hv]
  clear hv
  refine Asks.mk (lenAsk0 (by omega)) ⟨sumA_loop hs, EqB.mk ?_ (EqB.mk rfl (EqN.mk ?_ (EqB.mk rfl ⟨sumB_loop hs (by omega), EqB.mk rfl (EqB.mk rfl (EqN.mk rfl (EqB.mk rfl ⟨sumC_loop hp.2 (by omega) (by omega), sameCode _, sameCode _, EqB.mk rfl (EqN.mk rfl (EqB.mk rfl (Asks.mk ?_ (EqB.mk ?_ trivial))))⟩)))⟩)))⟩
  · simp [padA]
  · rw [padA_len]
  · exact wordsOk_of (blksI_w _ _)
  · rfl
noncomputable def HBok (H : AH) : Bool := roInts constAVs (H.get 2)
theorem HB_get (i : Nat) : HB.get i = if i = 2 then .cells constAVs .ro else .dead := by
  show AH.get { n := 12, t := Tr.ofList [(2, _)] } i = _
  simp only [AH.get, Tr.ofList, Tr.get_set, Tr.get_e]
  by_cases h : i = 2 <;> simp [h]
theorem CallGives.onHB {f : FuncId} {args : List AV} {a : AV} {H : AH} (h : CallGives PP II f args HB (.ret a HB)) (hb : HBok H = true) (hargs : ∀ σ, AVs.ren σ args = args) (ha : ∀ σ, a.ren σ = a) : CallGives PP II f args H (.ret a H) := by
  refine CallGives.pureG (I := II) (H0 := HB) h rfl (fun i hi => ?_) (fun i hi hd => ?_) hargs ha
  · have hi : 12 ≤ i := hi
    rw [HB_get, if_neg (by omega)]
  · by_cases e : i = 2
    · subst e
      rw [roInts_eq hb]
      exact ⟨rfl, fun σ => rfl⟩
    · rw [HB_get, if_neg e] at hd; exact absurd rfl hd
noncomputable def Known.onHB (f : FuncId) (spec : {R : Type} → RI R → List AV → (AV → R) → R)
    (ok : ∀ {R : Type} (X : RI R) (sem : R → Prop), X.Ok sem → ∀ args kn, sem (spec X args kn) → ∃ a, sem (kn a) ∧ (∀ σ, a.ren σ = a) ∧ (∀ σ, AVs.ren σ args = args) ∧ CallGives PP II f args HB (.ret a HB)) : Known PP II where
  f := f
  spec X args H kn _ := frzs X 100000 args H fun args' H' => X.assert (HBok H') (spec X args' fun a => kn a H')
  ok X sem hX args H kn kp h := by
    obtain ⟨args', H', h1, h2⟩ := frzs_ok hX _ _ _ _ h
    obtain ⟨h0, h1⟩ := hX.assert _ _ h1
    obtain ⟨a, k1, k2, k3, k4⟩ := ok X sem hX _ _ h1
    exact ⟨.ret a H', k1, (k4.onHB h0 k3 k2).fzArgs h2⟩
noncomputable def kSum : Known PP II := Known.onHB 77
  (fun X args kn => match args with
    | [.str s] => X.assert (Nat.ble s.length 900000) (kn (.str (sumF s)))
    | _ => X.fail)
  fun X sem hX args kn h => by
    split at h
    · rename_i s
      obtain ⟨h1, h2⟩ := hX.assert _ _ h
      exact ⟨_, h2, fun _ => rfl, fun _ => rfl, sum_ok (Nat.le_of_ble_eq_true h1)⟩
    · exact absurd h hX.fail
end Go.Sx
end
section
set_option maxRecDepth 1000000
namespace Go.Sx
open Go
noncomputable def s83a (s : List UInt8) (x : Int × List UInt8) : St := { t := Tr.ofList [(0, .str s), (2, .nilSlice), (3, .own 12 x.2.length 1), (4, .int .i64 x.1)], nt := 43, H := { n := 13, t := Tr.ofList [(12, .str x.2 (.ty 5))] }, df := [] }
noncomputable def e83a (s l : List UInt8) : GE := .one (.x 0 { t := Tr.ofList [(0, .str s), (2, .nilSlice), (3, .own 12 l.length 1)], nt := 43, H := { n := 13, t := Tr.ofList [(12, .str l (.ty 5))] }, df := [] })
noncomputable def s83b (s l : List UInt8) : St := { t := Tr.ofList [(0, .str s), (2, .nilSlice), (3, .own 15 l.length 1)], nt := 43, H := { n := 16, t := Tr.ofList [(15, .str l (.ty 5))] }, df := [] }
noncomputable def e83b (s l : List UInt8) : GE := .one (.x 2 (s83b s l))
noncomputable def s83c (s : List UInt8) (x : Int × List UInt8) : St := { t := Tr.ofList [(0, .str s), (2, .nilSlice), (3, .own 16 x.2.length 1), (5, .int .i64 x.1)], nt := 43, H := { n := 17, t := Tr.ofList [(16, .str x.2 (.ty 5))] }, df := [] }
noncomputable def e83c (l : List UInt8) : GE := .one (.x 4 { t := Tr.ofList [(2, .nilSlice), (3, .own 16 l.length 1)], nt := 43, H := { n := 17, t := Tr.ofList [(16, .str l (.ty 5))] }, df := [] })
theorem extA_step (s l l' r : List UInt8) (i : Int) (Q : Prop) : (kr [] [] 83 3004 12 (s83a s) (fun _ => e83a s r) (fun x => (x.1 + 1, l')) Q (i, l)) = (Cond (decide (i < Int.ofNat (List.length s))) (Asks (decide (0 ≤ i) && decide (i < Int.ofNat (List.length s))) (Asks (decide (List.length l ≤ List.length l) && true && true && decide ((List.length l + 1) * 1 ≤ 140737488355328) && (decide (List.length l = List.length l) && (decide (0 ≤ Int.ofNat (UInt8.toNat (Option.getD (List.get?Internal s (Int.toNat i)) { toBitVec := { toFin := ⟨0, Nat.mod_lt 0 (BitVec.ofNat._proof_1 8)⟩ } }))) && decide (Int.ofNat (UInt8.toNat (Option.getD (List.get?Internal s (Int.toNat i)) { toBitVec := { toFin := ⟨0, Nat.mod_lt 0 (BitVec.ofNat._proof_1 8)⟩ } })) ≤ 255) && true))) (Asks (inR .i64 (i + 1)) (EqB (List.append l [UInt8.ofNat (Int.toNat (Int.ofNat (UInt8.toNat (Option.getD (List.get?Internal s (Int.toNat
 i)) { toBitVec := { toFin := ⟨0, Nat.mod_lt 0 (BitVec.ofNat._proof_1 8)⟩ } }))))]) l' (EqN (List.length l + 1) (List.length l') (EqB s s (EqI (i + 1) (i + 1) Q))))))) (EqB l r (EqN (List.length l) (List.length r) (EqB s s True)))) := by kernel_rfl
theorem extB_step (s l r : List UInt8) (Q : Prop) : (kr [] [] 83 7004 15 (s83b s) (fun _ => e83b s r) (fun l => l ++ [0]) Q l) = (Cond (!decide (Int.tmod (Int.ofNat (List.length l)) 64 = 56)) (Asks (decide (List.length l ≤ List.length l) && true && true && decide ((List.length l + 1) * 1 ≤ 140737488355328) && (decide (List.length l = List.length l) && true)) (EqB (List.append l [{ toBitVec := { toFin := ⟨0, Nat.mod_lt 0 (BitVec.ofNat._proof_1 8)⟩ } }]) (List.append l [{ toBitVec := { toFin := ⟨0, Nat.mod_lt 0 (BitVec.ofNat._proof_1 8)⟩ } }]) (EqN (List.length l + 1) (List.length (List.append l [{ toBitVec := { toFin := ⟨0, Nat.mod_lt 0 (BitVec.ofNat._proof_1 8)⟩ } }])) (EqB s s Q)))) (EqB l r (EqN (List.length l) (List.length r) (EqB s s True)))) := by kernel_rfl
theorem extC_step (s l r : List UInt8) (i : Int) (lenB : Int → UInt8) (Q : Prop) : (kr [] [] 83 10002 16 (s83c s) (fun _ => e83c r) (fun x => (x.1 - 1, x.2 ++ [lenB x.1])) Q (i, l)) = (Cond (decide (i ≥ 0)) (Asks (inR .i64 (8 * Int.ofNat (List.length s))) (Asks (inR .i64 (8 * i)) (Asks (decide (0 ≤ 8 * i)) (Asks (decide (List.length l ≤ List.length l) && true && true && decide ((List.length l + 1) * 1 ≤ 140737488355328) && (decide (List.length l = List.length l) && (decide (0 ≤ Int.emod (Int.fdiv (8 * Int.ofNat (List.length s)) (Int.pow 2 (if Int.toNat (8 * i) ≤ 64 then Int.toNat (8 * i) else 64))) 256) && decide (Int.emod (Int.fdiv (8 * Int.ofNat (List.length s)) (Int.pow 2 (if Int.toNat (8 * i) ≤ 64 then Int.toNat (8 * i) else 64))) 256 ≤ 255) && true))) (Asks (inR .i64 (i - 1)) (EqB (List.append l [UInt8.ofNat (Int.toNat (Int.emod (Int.fdiv (8 * Int.ofNat (List.length s)) (Int.pow 2
 (if Int.toNat (8 * i) ≤ 64 then Int.toNat (8 * i) else 64))) 256))]) (List.append l [lenB i]) (EqN (List.length l + 1) (List.length (List.append l [lenB i])) (EqI (i - 1) (i - 1) (EqB s s Q))))))))) (EqB l r (EqN (List.length l) (List.length r) True))) := by kernel_rfl
theorem ext_vc (s r1 l2 r2 r3 : List UInt8) (Q : AV → Prop) : (kb [] [(3004, 12, s83a s (0, []), e83a s r1), (7004, 15, s83b s l2, e83b s r2), (10002, 16, s83c s (7, r2), e83c r3)] 83 [.str s] Q) = (LoopAt PP II false (loopOf II 83 3004) 12 (s83a s (0, [])) (e83a s r1) ∧ EqB [] [] (EqB s s (Asks (decide (List.length r1 ≤ List.length r1) && true && true && decide ((List.length r1 + 1) * 1 ≤ 140737488355328) && (decide (List.length r1 = List.length r1) && true)) (LoopAt PP II false (loopOf II 83 7004) 15 (s83b s l2) (e83b s r2) ∧ EqB (List.append r1 [{ toBitVec := { toFin := ⟨128, Nat.mod_lt 128 (BitVec.ofNat._proof_1 8)⟩ } }]) l2 (EqN (List.length r1 + 1) (List.length l2) (EqB s s (LoopAt PP II false (loopOf II 83 10002) 16 (s83c s (7, r2)) (e83c r3) ∧ EqB r2 r2 (EqN (List.length r2) (List.length r2) (EqB s s (Asks (decide (List.length r3 ≤ List.length r3)) (Q (AV.fslice (List.length r3) 1
 fun i => [AV.int .u8 (Int.ofNat (UInt8.toNat (Option.getD (List.get?Internal r3 i) { toBitVec := { toFin := ⟨0, Nat.mod_lt 0 (BitVec.ofNat._proof_1 8)⟩ } })))])))))))))))) := by kernel_rfl
theorem take_push {s : List UInt8} {k : Nat} (h : k < s.length) : List.append (s.take k) [UInt8.ofNat (Int.toNat (Int.ofNat (UInt8.toNat (Option.getD (List.get?Internal s k) { toBitVec := { toFin := ⟨(0 : Nat), Nat.mod_lt (0 : Nat) (BitVec.ofNat._proof_1 (8 : Nat))⟩ } }))))] = s.take (k + 1) := by
  have e : List.get?Internal s k = some s[k] := List.getElem?_eq_getElem h
  rw [e, toNat_ofNat, Option.getD_some, UInt8.ofNat_toNat, List.take_add_one, List.getElem?_eq_getElem h]
  rfl
theorem extA_loop {s : List UInt8} (hs : s.length ≤ 900000) : LoopAt PP II false (loopOf II 83 3004) 12 (s83a s (0, [])) (e83a s s) :=
  LoopAt.of (ι := Int × List UInt8) hII [] (lamT_ok PP II []) 1000 12 (fun x => ∃ k : Nat, k ≤ s.length ∧ x.1 = (k : Int) ∧ x.2 = s.take k) (s83a s) (fun _ => e83a s s) (fun x => (s.length - x.1).toNat) (fun x => (x.1 + 1, s.take (x.1.toNat + 1))) (0, []) rfl
    ⟨0, Nat.zero_le _, rfl, rfl⟩ fun x hx => by
    obtain ⟨i, l⟩ := x
    obtain ⟨k, hk, h1, h2⟩ := hx
    change i = (k : Int) at h1
    change l = s.take k at h2
    have eL : Int.ofNat (List.length s) = (s.length : Int) := rfl
    have hlen : l.length = k := by rw [h2, List.length_take]; omega
    refine (extA_step s l (s.take (i.toNat + 1)) s i _).mpr (Cond.mk (fun h => ?_) fun h => ?_)
    · simp only [decide_eq_true_eq, eL] at h
      have ni : Int.toNat i = k := by omega
      have hk' : k < s.length := by omega
      have tp := take_push hk'
      rw [ni, hlen]
      have hb : ∀ x : UInt8, (decide ((0 : Int) ≤ Int.ofNat x.toNat) && decide (Int.ofNat x.toNat ≤ (255 : Int)) && true) = true := fun x => by
        have := x.toNat_lt
        have e : Int.ofNat x.toNat = (x.toNat : Int) := rfl
        rw [decide_eq_true (by omega), decide_eq_true (by omega)]; rfl
      refine Asks.mk (by rw [decide_eq_true (show (0 : Int) ≤ i by omega), decide_eq_true (show i < Int.ofNat s.length by omega)]; rfl) (Asks.mk ?_ (Asks.mk (inR_small (by omega) (by omega)) (EqB.mk ?_ (EqN.mk ?_ (EqB.mk rfl (EqI.mk rfl ⟨⟨k + 1, hk', by show i + 1 = _; omega, rfl⟩, by show ((s.length : Int) - (i + 1)).toNat < ((s.length : Int) - i).toNat; omega, rfl⟩))))))
      · rw [hb, decide_eq_true (Nat.le_refl k), decide_eq_true (show (k + 1) * 1 ≤ 140737488355328 by omega), decide_eq_true (rfl : k = k)]; rfl
      · rw [h2]; exact tp
      · rw [List.length_take]; omega
    · simp only [decide_eq_false_iff_not, eL] at h
      have : k = s.length := by omega
      have : l = s := by rw [h2, this, List.take_length]
      subst this
      exact EqB.mk rfl (EqN.mk rfl (EqB.mk rfl trivial))
theorem extB_loop {s : List UInt8} (hs : s.length ≤ 900000) : LoopAt PP II false (loopOf II 83 7004) 15 (s83b s (padA s 0)) (e83b s (padA s (padZ s.length))) :=
  LoopAt.of (ι := List UInt8) hII [] (lamT_ok PP II []) 1000 15 (fun l => ∃ k, k ≤ padZ s.length ∧ l = padA s k) (s83b s) (fun _ => e83b s (padA s (padZ s.length))) (fun l => s.length + 1 + padZ s.length - l.length) (fun l => l ++ [0]) (padA s 0) rfl
    ⟨0, Nat.zero_le _, rfl⟩ fun l hl => by
    obtain ⟨k, hk, rfl⟩ := hl
    have hz : padZ s.length < 64 := Nat.mod_lt _ (by omega)
    refine (extB_step s (padA s k) (padA s (padZ s.length)) _).mpr ?_
    have hlen := padA_len s k
    have e0 : Int.tmod (Int.ofNat (List.length (padA s k))) 64 = (((s.length + 1 + k) % 64 : Nat) : Int) := by rw [tmod64, hlen]
    rw [e0]
    refine Cond.mk (fun h => ?_) fun h => ?_
    · simp only [Bool.not_eq_true', decide_eq_false_iff_not] at h
      have hne : k ≠ padZ s.length := fun e => h (by have := (padZ_step hk).2 e; omega)
      refine Asks.mk (lenAsk (by omega)) (EqB.mk rfl (EqN.mk ?_ (EqB.mk rfl ⟨⟨k + 1, by omega, padA_succ s k⟩, ?_, rfl⟩)))
      · show _ = (padA s k ++ [0]).length
        simp
      · show _ - (padA s k ++ [0]).length < _
        rw [padA_succ, padA_len, hlen]; omega
    · simp only [Bool.not_eq_false', decide_eq_true_eq] at h
      have : k = padZ s.length := (padZ_step hk).1 (by omega)
      subst this
      exact EqB.mk rfl (EqN.mk rfl (EqB.mk rfl trivial))
theorem extC_loop {s l : List UInt8} (hs : s.length ≤ 900000) (hl : l.length ≤ 990000) : LoopAt PP II false (loopOf II 83 10002) 16 (s83c s (7, l)) (e83c (padB s l 8)) :=
  LoopAt.of (ι := Int × List UInt8) hII [] (lamT_ok PP II []) 1000 16 (fun i => ∃ k : Nat, k ≤ 8 ∧ i.1 = 7 - (k : Int) ∧ i.2 = padB s l k) (s83c s) (fun _ => e83c (padB s l 8)) (fun i => (i.1 + 1).toNat) (fun i => (i.1 - 1, i.2 ++ [lenB s i.1])) (7, l) rfl
    ⟨0, by omega, rfl, (List.append_nil l).symm⟩ fun i hi => by
    obtain ⟨i, l'⟩ := i
    obtain ⟨k, hk, h1, h2⟩ := hi
    change i = 7 - (k : Int) at h1
    change l' = padB s l k at h2
    have hlen : l'.length = l.length + k := by rw [h2, padB_len]
    refine (extC_step s l' (padB s l 8) i (lenB s) _).mpr (Cond.mk (fun h => ?_) fun h => ?_)
    · simp only [decide_eq_true_eq, ge_iff_le] at h
      have hk : k < 8 := by omega
      refine Asks.mk (inR_small (by have : (0 : Int) ≤ Int.ofNat s.length := Int.natCast_nonneg _; omega) (by have : Int.ofNat s.length = ((s.length : Nat) : Int) := rfl; omega)) (Asks.mk (inR_small (by omega) (by omega)) (Asks.mk (decide_eq_true (by omega)) (Asks.mk (lenAsk2 (by omega)) (Asks.mk (inR_small (by omega) (by omega)) (EqB.mk rfl (EqN.mk ?_ (EqI.mk rfl (EqB.mk rfl ⟨⟨k + 1, by omega, by show i - 1 = _; omega, ?_⟩, ?_, rfl⟩))))))))
      · show _ = (l' ++ [lenB s i]).length
        simp
      · show l' ++ [lenB s i] = _
        rw [h1, h2, padB_succ]
      · show (i - 1 + 1).toNat < (i + 1).toNat; omega
    · simp only [decide_eq_false_iff_not, ge_iff_le] at h
      have : k = 8 := by omega
      subst this
      rw [h2]
      exact EqB.mk rfl (EqN.mk rfl trivial)
theorem byteRow_le (σ : Nat → Nat) (l : List UInt8) (i : Nat) : AVs.le σ (byteRow l i) (byteRow l i) := ⟨⟨rfl, rfl⟩, trivial⟩
theorem ext_ok {s : List UInt8} (hs : s.length ≤ 900000) : CallGives PP II 83 [.str s] (AH.blank 12) (.ret (.fslice (padF s).length 1 (byteRow (padF s))) (AH.blank 12)) := by
  have hz : padZ s.length < 64 := Nat.mod_lt _ (by omega)
  have hlen := padA_len s (padZ s.length)
  refine of_kb (ks := []) (T := [(3004, 12, s83a s (0, []), e83a s s), (7004, 15, s83b s (padA s 0), e83b s (padA s (padZ s.length))), (10002, 16, s83c s (7, padA s (padZ s.length)), e83c (padF s))]) (fun σ => ⟨rfl, rfl, fun i _ => byteRow_le σ _ i⟩) ?_
  rw [ext_vc]
  refine ⟨extA_loop hs, EqB.mk rfl (EqB.mk rfl (Asks.mk (lenAsk (by omega)) ⟨extB_loop hs, EqB.mk ?_ (EqN.mk ?_ (EqB.mk rfl ⟨extC_loop hs (by omega), EqB.mk rfl (EqN.mk rfl (EqB.mk rfl (Asks.mk (decide_eq_true (Nat.le_refl _)) rfl)))⟩))⟩))⟩
  · show s ++ [128] = padA s 0
    simp [padA]
  · rw [padA_len]
noncomputable def kRExt : Known PP II := Known.pure 83
  (fun X args kn => match args with
    | [.str s] => X.assert (decide (s.length ≤ 900000)) (kn (.fslice (padF s).length 1 (byteRow (padF s))))
    | _ => X.fail)
  fun X sem hX args kn h => by
    split at h
    · obtain ⟨e0, k0⟩ := hX.assert _ _ h
      exact ⟨_, k0, fun _ => rfl, fun _ => rfl, ext_ok (of_decide_eq_true e0)⟩
    · exact absurd h hX.fail
end Go.Sx
end
