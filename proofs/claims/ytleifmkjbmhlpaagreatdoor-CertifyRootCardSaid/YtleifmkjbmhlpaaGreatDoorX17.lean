/- CertifyRoot is proved, part 17. -/
import Derived.Test.YtleifmkjbmhlpaaGreatDoorX16
set_option linter.unusedVariables false
set_option linter.unusedSimpArgs false
set_option linter.unusedSectionVars false
section
set_option maxRecDepth 1000000
namespace Go.Sx
open Go
def w43 (v : Nat → Int) : Bool → AV | true => .fslice 8 1 (wRow v) | false => .slice 12 0 0 8 (some 8) 1
def b43 (v : Nat → Int) : Bool → ABlk | true => .dead | false => .cells (vAV v) (.ty 159)
noncomputable def s43a (l : List UInt8) (x : Bool × Int × (Nat → Int)) : St := { t := Tr.ofList [(2, .str []), (3, w43 x.2.2 x.1), (4, .fslice l.length 1 (byteRow l)), (5, .int .i64 x.2.1)], nt := 56, H := { n := 13, t := Tr.ofList [(12, b43 x.2.2 x.1)] }, df := [] }
noncomputable def e43a (v : Nat → Int) : GE := .one (.x 0 { t := Tr.ofList [(2, .str []), (3, .fslice 8 1 (wRow v))], nt := 56, H := AH.blank 13, df := [] })
noncomputable def s43b (v : Nat → Int) (x : Int × List UInt8) : St := { t := Tr.ofList [(2, .str []), (3, .fslice 8 1 (wRow v)), (6, .own 13 x.2.length 1), (7, .int .i64 x.1)], nt := 56, H := { n := 14, t := Tr.ofList [(13, .str x.2 (.ty 5))] }, df := [] }
noncomputable def e43b (l : List UInt8) : GE := .one (.x 2 { t := Tr.ofList [(2, .str []), (6, .own 13 l.length 1)], nt := 56, H := { n := 14, t := Tr.ofList [(13, .str l (.ty 5))] }, df := [] })
theorem rsumA0_step (l : List UInt8) (v vN : Nat → Int) (nxt : Int → Nat → Int) (i : Int) (Q : Prop) : (kr [kRBlock] [] 43 4004 13 (s43a l) (fun _ => e43a vN) (fun x => (true, x.2.1 + 64, nxt x.2.1)) Q (false, i, v)) = (Cond (decide (i < Int.ofNat (List.length l))) (Asks (inR .i64 (i + 64)) (Asks (decide (0 ≤ i) && decide (i ≤ i + 64) && decide (i + 64 ≤ Int.ofNat (List.length l))) (Asks (decide (Int.toNat (i + 64 - i) = 64)) (Asks (word32Ok 8 fun i => List.take 1 (List.drop (0 + i * 1) [AV.int .u32 (v 0), AV.int .u32 (v 1), AV.int .u32 (v 2), AV.int .u32 (v 3), AV.int .u32 (v 4), AV.int .u32 (v 5), AV.int .u32 (v 6), AV.int .u32 (v 7)])) (Asks (bytesOk 64 fun i_1 => byteRow l (Int.toNat i + i_1)) (Asks (inR .i64 (i + 64)) (RowsLe 8 (wRow (addI (byteOf fun i_1 => byteRow l (Int.toNat i + i_1)) (word32Of fun i => List.take 1 (List.drop (0 + i * 1) [AV.int .u32 (v 0), AV.int .u32 (v 1),
 AV.int .u32 (v 2), AV.int .u32 (v 3), AV.int .u32 (v 4), AV.int .u32 (v 5), AV.int .u32 (v 6), AV.int .u32 (v 7)])))) (wRow (nxt i)) ∧ EqI (i + 64) (i + 64) (EqN (List.length l) (List.length l) (RowsLe (List.length l) (byteRow l) (byteRow l) ∧ EqB [] [] Q))))))))) False) := by kernel_rfl
theorem rsumA1_step (l : List UInt8) (v vN : Nat → Int) (nxt : Int → Nat → Int) (i : Int) (Q : Prop) : (kr [kRBlock] [] 43 4004 13 (s43a l) (fun _ => e43a vN) (fun x => (true, x.2.1 + 64, nxt x.2.1)) Q (true, i, v)) = (Cond (decide (i < Int.ofNat (List.length l))) (Asks (inR .i64 (i + 64)) (Asks (decide (0 ≤ i) && decide (i ≤ i + 64) && decide (i + 64 ≤ Int.ofNat (List.length l))) (Asks (decide (Int.toNat (i + 64 - i) = 64)) (Asks (word32Ok 8 (wRow v)) (Asks (bytesOk 64 fun i_1 => byteRow l (Int.toNat i + i_1)) (Asks (inR .i64 (i + 64)) (RowsLe 8 (wRow (addI (byteOf fun i_1 => byteRow l (Int.toNat i + i_1)) (word32Of (wRow v)))) (wRow (nxt i)) ∧ EqI (i + 64) (i + 64) (EqN (List.length l) (List.length l) (RowsLe (List.length l) (byteRow l) (byteRow l) ∧ EqB [] [] Q))))))))) (RowsLe 8 (wRow v) (wRow vN) ∧ EqB [] [] True)) := by kernel_rfl
theorem rsumB_step (v : Nat → Int) (l : List UInt8) (l' : Int → List UInt8) (r : List UInt8) (i : Int) (Q : Prop) : (kr [] [] 43 9002 13 (s43b v) (fun _ => e43b r) (fun x => (x.1 + 1, l' x.1)) Q (i, l)) = (Cond (decide (i < 8)) (Asks (decide (0 ≤ i) && decide (i < 8)) (Asks (decide (0 ≤ i) && decide (i < 8)) (Asks (decide (0 ≤ i) && decide (i < 8)) (Asks (decide (0 ≤ i) && decide (i < 8)) (Asks (decide (List.length l ≤ List.length l) && true && true && decide ((List.length l + 4) * 1 ≤ 140737488355328) && (decide (List.length l = List.length l) && (decide (0 ≤ Int.emod (Int.fdiv (v (Int.toNat i)) 16777216) 256) && decide (Int.emod (Int.fdiv (v (Int.toNat i)) 16777216) 256 ≤ 255) && (decide (0 ≤ Int.emod (Int.fdiv (v (Int.toNat i)) 65536) 256) && decide (Int.emod (Int.fdiv (v (Int.toNat i)) 65536) 256 ≤ 255) && (decide (0 ≤ Int.emod (Int.fdiv (v (Int.toNat i)) 256) 256) && decide (Int.emod
 (Int.fdiv (v (Int.toNat i)) 256) 256 ≤ 255) && (decide (0 ≤ Int.emod (v (Int.toNat i)) 256) && decide (Int.emod (v (Int.toNat i)) 256 ≤ 255) && true)))))) (Asks (inR .i64 (i + 1)) (EqB (List.append l [UInt8.ofNat (Int.toNat (Int.emod (Int.fdiv (v (Int.toNat i)) 16777216) 256)), UInt8.ofNat (Int.toNat (Int.emod (Int.fdiv (v (Int.toNat i)) 65536) 256)), UInt8.ofNat (Int.toNat (Int.emod (Int.fdiv (v (Int.toNat i)) 256) 256)), UInt8.ofNat (Int.toNat (Int.emod (v (Int.toNat i)) 256))]) (l' i) (EqI (i + 1) (i + 1) (RowsLe 8 (wRow v) (wRow v) ∧ EqB [] [] (EqN (List.length l + 4) (List.length (l' i)) Q)))))))))) (EqB l r (EqB [] [] (EqN (List.length l) (List.length r) True)))) := by kernel_rfl
theorem rsum_vc (s r : List UInt8) (v0 v : Nat → Int) (Q : AV → Prop) : (kb [kRExt, kRBlock] [(4004, 13, s43a (padF s) (false, 0, v0), e43a v), (9002, 13, s43b v (0, []), e43b r)] 43 [.str s] Q) = (Asks (decide (List.length s ≤ 900000)) (LoopAt PP II false (loopOf II 43 4004) 13 (s43a (padF s) (false, 0, v0)) (e43a v) ∧ EqI 1779033703 (v0 0) (EqI 3144134277 (v0 1) (EqI 1013904242 (v0 2) (EqI 2773480762 (v0 3) (EqI 1359893119 (v0 4) (EqI 2600822924 (v0 5) (EqI 528734635 (v0 6) (EqI 1541459225 (v0 7) (EqN (List.length (padF s)) (List.length (padF s)) (RowsLe (List.length (padF s)) (byteRow (padF s)) (byteRow (padF s)) ∧ EqB [] [] (LoopAt PP II false (loopOf II 43 9002) 13 (s43b v (0, [])) (e43b r) ∧ EqB [] [] (RowsLe 8 (wRow v) (wRow v) ∧ EqB [] [] (Asks (decide (List.length r = List.length r)) (Q (AV.str r)))))))))))))))) := by kernel_rfl
def c8 (v : Nat → Int) (i : Nat) : List AV := List.take 1 (List.drop (0 + i * 1) [AV.int .u32 (v 0), AV.int .u32 (v 1), AV.int .u32 (v 2), AV.int .u32 (v 3), AV.int .u32 (v 4), AV.int .u32 (v 5), AV.int .u32 (v 6), AV.int .u32 (v 7)])
theorem c8_at (v : Nat → Int) {i : Nat} (h : i < 8) : c8 v i = wRow v i := by
  match i, h with
  | 0, _ | 1, _ | 2, _ | 3, _ | 4, _ | 5, _ | 6, _ | 7, _ => rfl
theorem pick8 (u : Nat → Int) {i : Nat} (h : i < 8) : pickI (vAV u) i = u i := by
  match i, h with
  | 0, _ | 1, _ | 2, _ | 3, _ | 4, _ | 5, _ | 6, _ | 7, _ => rfl
theorem word32Of_c8 (u : Nat → Int) : word32Of (c8 (pickI (vAV u))) = pickI (vAV u) := by
  funext i
  by_cases h : i < 8
  · unfold word32Of; rw [c8_at _ h]; rfl
  · have e1 : c8 (pickI (vAV u)) i = [] := by
      unfold c8
      rw [List.drop_eq_nil_of_le (by simp; omega)]; rfl
    have e2 : pickI (vAV u) i = 0 := by
      unfold pickI
      rw [List.getD_eq_getElem?_getD, List.getElem?_eq_none (by simp [vAV]; omega)]; rfl
    unfold word32Of
    rw [e1, e2]
theorem word32_w {v : Nat → Int} (h : isW v) : word32Ok 8 (wRow v) = true := List.all_eq_true.2 fun i hi => by
  have := h i (List.mem_range.1 hi)
  show (decide (0 ≤ v i) && decide (v i < 4294967296)) = true
  rw [decide_eq_true this.1, decide_eq_true this.2]; rfl
theorem word32_c8 {v : Nat → Int} (h : isW v) : word32Ok 8 (c8 v) = true := by
  have := word32_w h
  refine List.all_eq_true.2 fun i hi => ?_
  have k := List.all_eq_true.1 this i hi
  simp only [c8_at v (List.mem_range.1 hi)]
  exact k
theorem pick_w {v : Nat → Int} (h : isW v) : isW (pickI (vAV v)) := fun j hj => by rw [pick8 v hj]; exact h j hj
theorem blksI_succ (l : List UInt8) (k : Nat) : blksI l (k + 1) = addI (blkB l (64 * (k : Int))) (pickI (vAV (blksI l k))) := rfl
def stW (l : List UInt8) (k : Nat) : Nat → Int := pickI (vAV (blksI l k))
def nx43 (l : List UInt8) (i : Int) : Nat → Int := stW l (i.toNat / 64 + 1)
theorem wRow8 {u v : Nat → Int} (h : ∀ j, j < 8 → u j = v j) : RowsLe 8 (wRow u) (wRow v) := fun j hj σ => by
  show AVs.le σ [AV.int .u32 (u j)] [AV.int .u32 (v j)]
  rw [h j hj]; exact ⟨⟨rfl, rfl⟩, trivial⟩
theorem rsumA_loop {l : List UInt8} (h64 : l.length % 64 = 0) (h0 : 0 < l.length) (hl : l.length ≤ 1000000) : LoopAt PP II false (loopOf II 43 4004) 13 (s43a l (false, 0, stW l 0)) (e43a (stW l (l.length / 64))) :=
  LoopAt.of (ι := Bool × Int × (Nat → Int)) hII [kRBlock] (lamT_ok PP II []) 1000 13 (fun x => ∃ k : Nat, 64 * k ≤ l.length ∧ x.2.1 = 64 * (k : Int) ∧ x.2.2 = stW l k ∧ (x.1 = false → k = 0)) (s43a l) (fun _ => e43a (stW l (l.length / 64))) (fun x => (l.length - x.2.1).toNat) (fun x => (true, x.2.1 + 64, nx43 l x.2.1)) (false, 0, stW l 0) rfl
    ⟨0, by omega, rfl, rfl, fun _ => rfl⟩ fun x hx => by
    obtain ⟨b, i, v⟩ := x
    obtain ⟨k, hk, h1, h2, h3⟩ := hx
    change i = 64 * (k : Int) at h1
    change v = stW l k at h2
    change b = false → k = 0 at h3
    have hv : isW v := by rw [h2]; exact pick_w (blksI_w l k)
    have eL : Int.ofNat (List.length l) = (l.length : Int) := rfl
    have brefl : RowsLe l.length (byteRow l) (byteRow l) := RowsLe.same fun _ _ => byteRow_le _ _ _
    have ei : i.toNat / 64 + 1 = k + 1 := by omega
    have body : i < (l.length : Int) → inR .i64 (i + 64) = true ∧ (decide ((0 : Int) ≤ i) && decide (i ≤ i + (64 : Int)) && decide (i + (64 : Int) ≤ Int.ofNat (List.length l))) = true ∧ decide (Int.toNat (i + (64 : Int) - i) = (64 : Nat)) = true := fun h => by
      refine ⟨inR_small (by omega) (by omega), ?_, decide_eq_true (by omega)⟩
      rw [decide_eq_true (by omega), decide_eq_true (by omega), decide_eq_true (show i + 64 ≤ Int.ofNat l.length by rw [eL]; omega)]; rfl
    have nxt : RowsLe 8 (wRow (addI (byteOf fun j => byteRow l (Int.toNat i + j)) v)) (wRow (nx43 l i)) := by
      unfold nx43
      rw [ei]
      refine wRow8 fun j hj => ?_
      show _ = pickI (vAV (blksI l (k + 1))) j
      rw [pick8 _ hj, h2, h1, blksI_succ]
      unfold stW
      rfl
    have fin : i < (l.length : Int) → (∃ k' : Nat, 64 * k' ≤ l.length ∧ i + 64 = 64 * (k' : Int) ∧ nx43 l i = stW l k' ∧ (true = false → k' = 0)) ∧ ((l.length : Int) - (i + 64)).toNat < ((l.length : Int) - i).toNat ∧ (e43a (stW l (l.length / 64))).pick = (e43a (stW l (l.length / 64))).pick := fun h =>
      ⟨⟨k + 1, by omega, by omega, by unfold nx43; rw [ei], fun e => by cases e⟩, by omega, rfl⟩
    cases b with
    | false =>
      refine (rsumA0_step l v (stW l (l.length / 64)) (nx43 l) i _).mpr (Cond.mk (fun c => ?_) fun c => ?_)
      · simp only [decide_eq_true_eq, eL] at c
        obtain ⟨a1, a2, a3⟩ := body c
        have hv0 : v = pickI (vAV (blksI l 0)) := by rw [h2, h3 rfl]; rfl
        have e8 : word32Of (c8 v) = v := by rw [hv0]; exact word32Of_c8 _
        refine Asks.mk a1 (Asks.mk a2 (Asks.mk a3 (Asks.mk (word32_c8 hv) (Asks.mk (bytesRow l _) (Asks.mk a1 ⟨?_, EqI.mk rfl (EqN.mk rfl ⟨brefl, EqB.mk rfl (fin c)⟩)⟩)))))
        rw [← e8] at nxt
        exact nxt
      · simp only [decide_eq_false_iff_not, eL] at c
        have := h3 rfl
        omega
    | true =>
      refine (rsumA1_step l v (stW l (l.length / 64)) (nx43 l) i _).mpr (Cond.mk (fun c => ?_) fun c => ?_)
      · simp only [decide_eq_true_eq, eL] at c
        obtain ⟨a1, a2, a3⟩ := body c
        exact Asks.mk a1 (Asks.mk a2 (Asks.mk a3 (Asks.mk (word32_w hv) (Asks.mk (bytesRow l _) (Asks.mk a1 ⟨nxt, EqI.mk rfl (EqN.mk rfl ⟨brefl, EqB.mk rfl (fin c)⟩)⟩)))))
      · simp only [decide_eq_false_iff_not, eL] at c
        have : k = l.length / 64 := by omega
        subst this
        rw [h2]
        exact ⟨RowsLe.same fun _ _ => wRow_le _ _ _, EqB.mk rfl trivial⟩
theorem dtake (v : Nat → Int) {k : Nat} (h : k < 8) : List.append ((dBytes v).take (4 * k)) [dByte (v k) 16777216, dByte (v k) 65536, dByte (v k) 256, dByte (v k) 1] = (dBytes v).take (4 * (k + 1)) := by
  match k, h with
  | 0, _ | 1, _ | 2, _ | 3, _ | 4, _ | 5, _ | 6, _ | 7, _ => rfl
end Go.Sx
end
section
set_option maxRecDepth 1000000
namespace Go.Sx
open Go
theorem dB_len (v : Nat → Int) : (dBytes v).length = 32 := rfl
theorem fdiv1 (x : Int) : Int.fdiv x 1 = x := by rw [Int.fdiv_eq_ediv_of_nonneg _ (by omega)]; exact Int.ediv_one x
def r43 (v : Nat → Int) (i : Int) : List UInt8 := (dBytes v).take (4 * (i.toNat + 1))
theorem rsumB_loop (v : Nat → Int) : LoopAt PP II false (loopOf II 43 9002) 13 (s43b v (0, [])) (e43b (dBytes v)) :=
  LoopAt.of (ι := Int × List UInt8) hII [] (lamT_ok PP II []) 1000 13 (fun x => ∃ k : Nat, k ≤ 8 ∧ x.1 = (k : Int) ∧ x.2 = (dBytes v).take (4 * k)) (s43b v) (fun _ => e43b (dBytes v)) (fun x => (8 - x.1).toNat) (fun x => (x.1 + 1, r43 v x.1)) (0, []) rfl
    ⟨0, by omega, rfl, rfl⟩ fun x hx => by
    obtain ⟨i, l⟩ := x
    obtain ⟨k, hk, h1, h2⟩ := hx
    change i = (k : Int) at h1
    change l = (dBytes v).take (4 * k) at h2
    have hlen : l.length = 4 * k := by rw [h2, List.length_take, dB_len]; omega
    refine (rsumB_step v l (r43 v) (dBytes v) i _).mpr (Cond.mk (fun c => ?_) fun c => ?_)
    · simp only [decide_eq_true_eq] at c
      have ni : Int.toNat i = k := by omega
      have hk' : k < 8 := by omega
      have hin : (decide ((0 : Int) ≤ i) && decide (i < (8 : Int))) = true := by simp only [Bool.and_eq_true, decide_eq_true_eq]; omega
      have hb : ∀ x : Int, (decide ((0 : Int) ≤ Int.emod x 256) && decide (Int.emod x 256 ≤ 255)) = true := fun x => by
        have h1 : 0 ≤ Int.emod x 256 := Int.emod_nonneg _ (by omega)
        have h2 : Int.emod x 256 < 256 := Int.emod_lt_of_pos _ (by omega)
        rw [decide_eq_true h1, decide_eq_true (by omega)]; rfl
      have er : List.append l [UInt8.ofNat (Int.toNat (Int.emod (Int.fdiv (v (Int.toNat i)) 16777216) 256)), UInt8.ofNat (Int.toNat (Int.emod (Int.fdiv (v (Int.toNat i)) 65536) 256)), UInt8.ofNat (Int.toNat (Int.emod (Int.fdiv (v (Int.toNat i)) 256) 256)), UInt8.ofNat (Int.toNat (Int.emod (v (Int.toNat i)) 256))] = r43 v i := by
        unfold r43
        rw [ni, ← dtake v hk', h2]
        unfold dByte
        rw [fdiv1]
      have rl : (r43 v i).length = 4 * (k + 1) := by unfold r43; rw [ni, List.length_take, dB_len]; omega
      refine Asks.mk hin (Asks.mk hin (Asks.mk hin (Asks.mk hin (Asks.mk ?_ (Asks.mk (inR_small (by omega) (by omega)) (EqB.mk er (EqI.mk rfl ⟨RowsLe.same fun _ _ => wRow_le _ _ _, EqB.mk rfl (EqN.mk (by rw [hlen, rl]; omega) ⟨⟨k + 1, hk', by show i + 1 = _; omega, by show r43 v i = _; unfold r43; rw [ni]⟩, by show (8 - (i + 1)).toNat < (8 - i).toNat; omega, rfl⟩)⟩)))))))
      rw [hb, hb, hb, hb, hlen, decide_eq_true (Nat.le_refl _), decide_eq_true (show (4 * k + 4) * 1 ≤ 140737488355328 by omega), decide_eq_true rfl]; rfl
    · simp only [decide_eq_false_iff_not] at c
      have : k = 8 := by omega
      subst this
      rw [h2]
      exact EqB.mk rfl (EqB.mk rfl (EqN.mk rfl trivial))
theorem rsum_ok {s : List UInt8} (hs : s.length ≤ 900000) : CallGives PP II 43 [.str s] (AH.blank 12) (.ret (.str (sumF s)) (AH.blank 12)) := by
  have hp := padF_len s
  have hz : padZ s.length < 64 := Nat.mod_lt _ (by omega)
  refine of_kb (ks := [kRExt, kRBlock]) (T := [(4004, 13, s43a (padF s) (false, 0, stW (padF s) 0), e43a (stW (padF s) ((padF s).length / 64))), (9002, 13, s43b (stW (padF s) ((padF s).length / 64)) (0, []), e43b (sumF s))]) (fun σ => rfl) ?_
  rw [rsum_vc]
  exact Asks.mk (decide_eq_true hs) ⟨rsumA_loop hp.2 (by omega) (by omega), EqI.mk rfl (EqI.mk rfl (EqI.mk rfl (EqI.mk rfl (EqI.mk rfl (EqI.mk rfl (EqI.mk rfl (EqI.mk rfl (EqN.mk rfl ⟨RowsLe.same fun _ _ => byteRow_le _ _ _, EqB.mk rfl ⟨rsumB_loop _, EqB.mk rfl ⟨RowsLe.same fun _ _ => wRow_le _ _ _, EqB.mk rfl (Asks.mk (decide_eq_true rfl) rfl)⟩⟩⟩))))))))⟩
noncomputable def kRSum : Known PP II := Known.pure 43
  (fun X args kn => match args with
    | [.str s] => X.assert (decide (s.length ≤ 900000)) (kn (.str (sumF s)))
    | _ => X.fail)
  fun X sem hX args kn h => by
    split at h
    · obtain ⟨e0, k0⟩ := hX.assert _ _ h
      exact ⟨_, k0, fun _ => rfl, fun _ => rfl, rsum_ok (of_decide_eq_true e0)⟩
    · exact absurd h hX.fail
end Go.Sx
end
section
set_option maxRecDepth 1000000
namespace Go.Sx
open Go
noncomputable abbrev kh (ks : List (Known PP II)) (T : LTab) (f : FuncId) (args : List AV) (Q : AV → Prop) : Prop :=
  kbody ks (lamT PP II T) 1000 f args HB (fun a H => frz RI.prop 100000 a H fun a' H2 => Asks (Nat.ble 12 H2.n && HBok H2) (Q a')) (fun _ _ => False)
theorem constAVs_le (σ : Nat → Nat) : AVs.le σ constAVs constAVs := by
  unfold constAVs
  generalize Sha.consts = l
  induction l with
  | nil => trivial
  | cons a l ih => exact ⟨⟨rfl, rfl⟩, ih⟩
theorem of_kh {ks : List (Known PP II)} {T : LTab} {f : FuncId} {args : List AV} {a' : AV} (hle : ∀ σ, AV.le σ a' a') (h : kh ks T f args (fun a => a = a')) : CallGives PP II f args HB (.ret a' HB) := by
  obtain ⟨o, h1, h2⟩ := kbody_ok hII ks (lamT_ok PP II T) 1000 f args HB _ _ h
  cases o with
  | ret a H1 =>
    obtain ⟨x, H2, k1, k2⟩ := frz_ok RI.prop_ok _ _ _ _ h1
    obtain ⟨k0, k1⟩ := Asks.and k1
    have k1 : x = a' := k1
    subst k1
    simp only [Bool.and_eq_true] at k0
    refine (h2.fzRes k2).le (ResLe.of [] (HeapLe.of (by rfl) rfl rfl rfl k0.1 (allN_iff.2 fun l hl => ?_)) (hle _))
    rw [HB_get]
    by_cases e : l = 2
    · subst e
      rw [if_pos rfl]
      have e2 : sig HB.n [] H2.n 2 = 2 := rfl
      have := Nat.le_of_ble_eq_true k0.1
      show if sig HB.n [] H2.n 2 < H2.n then ABlk.le (sig HB.n [] H2.n) (H2.get (sig HB.n [] H2.n 2)) (ABlk.cells constAVs Access.ro) else _
      rw [e2, if_pos (by omega), roInts_eq k0.2]
      exact ⟨constAVs_le _, trivial⟩
    · rw [if_neg e]; trivial
  | pan a H1 => exact h1.elim
structure Node where
  lo : Nat → Int
  hi : Nat → Int
  l : List UInt8
  r : List UInt8
def nodeAV (x : Node) : List AV := [.int .i64 (x.lo 0), .int .i64 (x.lo 1), .int .i64 (x.lo 2), .int .i64 (x.lo 3), .int .i64 (x.lo 4), .int .i64 (x.lo 5), .int .i64 (x.lo 6), .int .i64 (x.lo 7), .int .i64 (x.hi 0), .int .i64 (x.hi 1), .int .i64 (x.hi 2), .int .i64 (x.hi 3), .int .i64 (x.hi 4), .int .i64 (x.hi 5), .int .i64 (x.hi 6), .int .i64 (x.hi 7), .str x.l, .str x.r]
theorem leaf_vc (x : Fact) (Q : AV → Prop) : (kh [kInts, kSum] [] 72 [.agg (factAV x)] Q) = (let zz1 := (decide (x.t = x.t) && (decide (x.v = x.v) && (decide (x.w = x.w) && (decide (x.o = x.o) && (decide (x.p = x.p) && (decide (x.d = x.d) && (decide (x.b = x.b) && (decide (x.l = x.l) && (decide (x.t = x.t) && (decide (x.v = x.v) && (decide (x.w = x.w) && (decide (x.o = x.o) && (decide (x.p = x.p) && (decide (x.d = x.d) && (decide (x.b = x.b) && (decide (x.h = x.h) && true)))))))))))))))); (Asks (decide ((-4611686018427387903 : Int) ≤ x.t) && decide (x.t ≤ 4611686018427387903) && (decide ((-4611686018427387903 : Int) ≤ x.s) && decide (x.s ≤ 4611686018427387903) && (decide ((-4611686018427387903 : Int) ≤ x.v) && decide (x.v ≤ 4611686018427387903) && (decide ((-4611686018427387903 : Int) ≤ x.w) && decide (x.w ≤ 4611686018427387903) && (decide ((-4611686018427387903 : Int) ≤ x.o) && decide
 (x.o ≤ 4611686018427387903) && (decide ((-4611686018427387903 : Int) ≤ x.p) && decide (x.p ≤ 4611686018427387903) && (decide ((-4611686018427387903 : Int) ≤ x.d) && decide (x.d ≤ 4611686018427387903) && (decide ((-4611686018427387903 : Int) ≤ x.l) && decide (x.l ≤ 4611686018427387903) && (decide ((-4611686018427387903 : Int) ≤ x.h) && decide (x.h ≤ 4611686018427387903) && (decide ((-4611686018427387903 : Int) ≤ x.b) && decide (x.b ≤ 4611686018427387903) && true))))))))) && true && true) (Asks zz1 (Asks (Nat.ble (List.length (intsF [x.t, x.s, x.v, x.w, x.o, x.p, x.d, x.l, x.h, x.b])) 900000) (Asks zz1 (Q (AV.agg [AV.int .i64 x.t, AV.int .i64 x.v, AV.int .i64 x.w, AV.int .i64 x.o, AV.int .i64 x.p, AV.int .i64 x.d, AV.int .i64 x.b, AV.int .i64 x.l, AV.int .i64 x.t, AV.int .i64 x.v, AV.int .i64 x.w, AV.int .i64 x.o, AV.int .i64 x.p, AV.int .i64 x.d, AV.int .i64 x.b, AV.int .i64 x.h, AV.str
 (sumF (intsF [x.t, x.s, x.v, x.w, x.o, x.p, x.d, x.l, x.h, x.b])), AV.str []]))))))) := by kernel_rfl
theorem dig42_vc (x : Node) (Q : AV → Prop) : (kh [kInts, kSum, kNoEscape] [] 42 [.agg (nodeAV x)] Q) = (let zz1 := (1 + List.length (intsF [x.lo 0, x.hi 0]) + List.length (intsF [x.lo 1, x.hi 1]) + List.length (intsF [x.lo 2, x.hi 2]) + List.length (intsF [x.lo 3, x.hi 3]) + List.length (intsF [x.lo 4, x.hi 4]) + List.length (intsF [x.lo 5, x.hi 5]) + List.length (intsF [x.lo 6, x.hi 6]) + List.length (intsF [x.lo 7, x.hi 7])); let zz5 := (sapp (sapp [] [{ toBitVec := { toFin := ⟨5, Nat.mod_lt 5 (BitVec.ofNat._proof_1 8)⟩ } }]) (intsF [x.lo 0, x.hi 0])); let zz2 := (sapp (sapp (sapp zz5 (intsF [x.lo 1, x.hi 1])) (intsF [x.lo 2, x.hi 2])) (intsF [x.lo 3, x.hi 3])); let zz6 := (sapp (sapp [] [{ toBitVec := { toFin := ⟨6, Nat.mod_lt 6 (BitVec.ofNat._proof_1 8)⟩ } }]) (intsF [x.lo 0, x.hi 0])); let zz3 := (sapp (sapp (sapp zz6 (intsF [x.lo 1, x.hi 1])) (intsF [x.lo 2, x.hi 2])) (intsF [x.lo
 3, x.hi 3])); let zz4 := (decide (1 + List.length (intsF [x.lo 0, x.hi 0]) + List.length (intsF [x.lo 1, x.hi 1]) + List.length (intsF [x.lo 2, x.hi 2]) + List.length (intsF [x.lo 3, x.hi 3]) + List.length (intsF [x.lo 4, x.hi 4]) + List.length (intsF [x.lo 5, x.hi 5]) + List.length (intsF [x.lo 6, x.hi 6]) + List.length (intsF [x.lo 7, x.hi 7]) = 1 + List.length (intsF [x.lo 0, x.hi 0]) + List.length (intsF [x.lo 1, x.hi 1]) + List.length (intsF [x.lo 2, x.hi 2]) + List.length (intsF [x.lo 3, x.hi 3]) + List.length (intsF [x.lo 4, x.hi 4]) + List.length (intsF [x.lo 5, x.hi 5]) + List.length (intsF [x.lo 6, x.hi 6]) + List.length (intsF [x.lo 7, x.hi 7])) && true); let zz7 := (sapp (sapp (sapp zz2 (intsF [x.lo 4, x.hi 4])) (intsF [x.lo 5, x.hi 5])) (intsF [x.lo 6, x.hi 6])); let zz8 := (sapp (sapp (sapp zz3 (intsF [x.lo 4, x.hi 4])) (intsF [x.lo 5, x.hi 5])) (intsF [x.lo 6, x.hi 6]));
 let zz9 := (decide (0 < 1 + List.length (intsF [x.lo 0, x.hi 0]) + List.length (intsF [x.lo 1, x.hi 1]) + List.length (intsF [x.lo 2, x.hi 2]) + List.length (intsF [x.lo 3, x.hi 3]) + List.length (intsF [x.lo 4, x.hi 4]) + List.length (intsF [x.lo 5, x.hi 5]) + List.length (intsF [x.lo 6, x.hi 6]) + List.length (intsF [x.lo 7, x.hi 7]))); let zz10 := ((1 + List.length (intsF [x.lo 0, x.hi 0]) + List.length (intsF [x.lo 1, x.hi 1]) + List.length (intsF [x.lo 2, x.hi 2]) + List.length (intsF [x.lo 3, x.hi 3]) + List.length (intsF [x.lo 4, x.hi 4]) + List.length (intsF [x.lo 5, x.hi 5]) + List.length (intsF [x.lo 6, x.hi 6])) * 1 ≤ 140737488355328); let zz11 := ((1 + List.length (intsF [x.lo 0, x.hi 0]) + List.length (intsF [x.lo 1, x.hi 1]) + List.length (intsF [x.lo 2, x.hi 2]) + List.length (intsF [x.lo 3, x.hi 3]) + List.length (intsF [x.lo 4, x.hi 4]) + List.length (intsF [x.lo 5, x.hi
 5])) * 1 ≤ 140737488355328); let zz12 := ((1 + List.length (intsF [x.lo 0, x.hi 0]) + List.length (intsF [x.lo 1, x.hi 1]) + List.length (intsF [x.lo 2, x.hi 2]) + List.length (intsF [x.lo 3, x.hi 3]) + List.length (intsF [x.lo 4, x.hi 4])) * 1 ≤ 140737488355328); let zz13 := (decide ((-4611686018427387903 : Int) ≤ x.lo 0) && decide (x.lo 0 ≤ 4611686018427387903) && (decide ((-4611686018427387903 : Int) ≤ x.hi 0) && decide (x.hi 0 ≤ 4611686018427387903) && true) && true && true); let zz14 := (decide ((-4611686018427387903 : Int) ≤ x.lo 1) && decide (x.lo 1 ≤ 4611686018427387903) && (decide ((-4611686018427387903 : Int) ≤ x.hi 1) && decide (x.hi 1 ≤ 4611686018427387903) && true) && true && true); let zz15 := (decide ((-4611686018427387903 : Int) ≤ x.lo 2) && decide (x.lo 2 ≤ 4611686018427387903) && (decide ((-4611686018427387903 : Int) ≤ x.hi 2) && decide (x.hi 2 ≤ 4611686018427387903) &&
 true) && true && true); let zz16 := (decide ((-4611686018427387903 : Int) ≤ x.lo 3) && decide (x.lo 3 ≤ 4611686018427387903) && (decide ((-4611686018427387903 : Int) ≤ x.hi 3) && decide (x.hi 3 ≤ 4611686018427387903) && true) && true && true); let zz17 := (decide ((-4611686018427387903 : Int) ≤ x.lo 4) && decide (x.lo 4 ≤ 4611686018427387903) && (decide ((-4611686018427387903 : Int) ≤ x.hi 4) && decide (x.hi 4 ≤ 4611686018427387903) && true) && true && true); let zz18 := (decide ((-4611686018427387903 : Int) ≤ x.lo 5) && decide (x.lo 5 ≤ 4611686018427387903) && (decide ((-4611686018427387903 : Int) ≤ x.hi 5) && decide (x.hi 5 ≤ 4611686018427387903) && true) && true && true); let zz19 := (decide ((-4611686018427387903 : Int) ≤ x.lo 6) && decide (x.lo 6 ≤ 4611686018427387903) && (decide ((-4611686018427387903 : Int) ≤ x.hi 6) && decide (x.hi 6 ≤ 4611686018427387903) && true) && true &&
 true); let zz20 := (decide ((-4611686018427387903 : Int) ≤ x.lo 7) && decide (x.lo 7 ≤ 4611686018427387903) && (decide ((-4611686018427387903 : Int) ≤ x.hi 7) && decide (x.hi 7 ≤ 4611686018427387903) && true) && true && true); let zz21 := ((1 + List.length (intsF [x.lo 0, x.hi 0]) + List.length (intsF [x.lo 1, x.hi 1]) + List.length (intsF [x.lo 2, x.hi 2]) + List.length (intsF [x.lo 3, x.hi 3])) * 1 ≤ 140737488355328); (Cond (List.beq x.r []) (Asks zz13 (Asks (decide (1 ≤ List.length (sapp [] [{ toBitVec := { toFin := ⟨5, Nat.mod_lt 5 (BitVec.ofNat._proof_1 8)⟩ } }])) && true && true && decide ((1 + List.length (intsF [x.lo 0, x.hi 0])) * 1 ≤ 140737488355328) && (decide (1 = List.length (sapp [] [{ toBitVec := { toFin := ⟨5, Nat.mod_lt 5 (BitVec.ofNat._proof_1 8)⟩ } }])) && true)) (Asks zz14 (Asks (decide (1 + List.length (intsF [x.lo 0, x.hi 0]) ≤ List.length zz5) && true && true &&
 decide ((1 + List.length (intsF [x.lo 0, x.hi 0]) + List.length (intsF [x.lo 1, x.hi 1])) * 1 ≤ 140737488355328) && (decide (1 + List.length (intsF [x.lo 0, x.hi 0]) = List.length zz5) && true)) (Asks zz15 (Asks (decide (1 + List.length (intsF [x.lo 0, x.hi 0]) + List.length (intsF [x.lo 1, x.hi 1]) ≤ List.length (sapp zz5 (intsF [x.lo 1, x.hi 1]))) && true && true && decide ((1 + List.length (intsF [x.lo 0, x.hi 0]) + List.length (intsF [x.lo 1, x.hi 1]) + List.length (intsF [x.lo 2, x.hi 2])) * 1 ≤ 140737488355328) && (decide (1 + List.length (intsF [x.lo 0, x.hi 0]) + List.length (intsF [x.lo 1, x.hi 1]) = List.length (sapp zz5 (intsF [x.lo 1, x.hi 1]))) && true)) (Asks zz16 (Asks (decide (1 + List.length (intsF [x.lo 0, x.hi 0]) + List.length (intsF [x.lo 1, x.hi 1]) + List.length (intsF [x.lo 2, x.hi 2]) ≤ List.length (sapp (sapp zz5 (intsF [x.lo 1, x.hi 1])) (intsF [x.lo 2, x.hi
 2]))) && true && true && decide zz21 && (decide (1 + List.length (intsF [x.lo 0, x.hi 0]) + List.length (intsF [x.lo 1, x.hi 1]) + List.length (intsF [x.lo 2, x.hi 2]) = List.length (sapp (sapp zz5 (intsF [x.lo 1, x.hi 1])) (intsF [x.lo 2, x.hi 2]))) && true)) (Asks zz17 (Asks (decide (1 + List.length (intsF [x.lo 0, x.hi 0]) + List.length (intsF [x.lo 1, x.hi 1]) + List.length (intsF [x.lo 2, x.hi 2]) + List.length (intsF [x.lo 3, x.hi 3]) ≤ List.length zz2) && true && true && decide zz12 && (decide (1 + List.length (intsF [x.lo 0, x.hi 0]) + List.length (intsF [x.lo 1, x.hi 1]) + List.length (intsF [x.lo 2, x.hi 2]) + List.length (intsF [x.lo 3, x.hi 3]) = List.length zz2) && true)) (Asks zz18 (Asks (decide (1 + List.length (intsF [x.lo 0, x.hi 0]) + List.length (intsF [x.lo 1, x.hi 1]) + List.length (intsF [x.lo 2, x.hi 2]) + List.length (intsF [x.lo 3, x.hi 3]) + List.length (intsF
 [x.lo 4, x.hi 4]) ≤ List.length (sapp zz2 (intsF [x.lo 4, x.hi 4]))) && true && true && decide zz11 && (decide (1 + List.length (intsF [x.lo 0, x.hi 0]) + List.length (intsF [x.lo 1, x.hi 1]) + List.length (intsF [x.lo 2, x.hi 2]) + List.length (intsF [x.lo 3, x.hi 3]) + List.length (intsF [x.lo 4, x.hi 4]) = List.length (sapp zz2 (intsF [x.lo 4, x.hi 4]))) && true)) (Asks zz19 (Asks (decide (1 + List.length (intsF [x.lo 0, x.hi 0]) + List.length (intsF [x.lo 1, x.hi 1]) + List.length (intsF [x.lo 2, x.hi 2]) + List.length (intsF [x.lo 3, x.hi 3]) + List.length (intsF [x.lo 4, x.hi 4]) + List.length (intsF [x.lo 5, x.hi 5]) ≤ List.length (sapp (sapp zz2 (intsF [x.lo 4, x.hi 4])) (intsF [x.lo 5, x.hi 5]))) && true && true && decide zz10 && (decide (1 + List.length (intsF [x.lo 0, x.hi 0]) + List.length (intsF [x.lo 1, x.hi 1]) + List.length (intsF [x.lo 2, x.hi 2]) + List.length (intsF
 [x.lo 3, x.hi 3]) + List.length (intsF [x.lo 4, x.hi 4]) + List.length (intsF [x.lo 5, x.hi 5]) = List.length (sapp (sapp zz2 (intsF [x.lo 4, x.hi 4])) (intsF [x.lo 5, x.hi 5]))) && true)) (Asks zz20 (Asks (decide (1 + List.length (intsF [x.lo 0, x.hi 0]) + List.length (intsF [x.lo 1, x.hi 1]) + List.length (intsF [x.lo 2, x.hi 2]) + List.length (intsF [x.lo 3, x.hi 3]) + List.length (intsF [x.lo 4, x.hi 4]) + List.length (intsF [x.lo 5, x.hi 5]) + List.length (intsF [x.lo 6, x.hi 6]) ≤ List.length zz7) && true && true && decide (zz1 * 1 ≤ 140737488355328) && (decide (1 + List.length (intsF [x.lo 0, x.hi 0]) + List.length (intsF [x.lo 1, x.hi 1]) + List.length (intsF [x.lo 2, x.hi 2]) + List.length (intsF [x.lo 3, x.hi 3]) + List.length (intsF [x.lo 4, x.hi 4]) + List.length (intsF [x.lo 5, x.hi 5]) + List.length (intsF [x.lo 6, x.hi 6]) = List.length zz7) && true)) (Asks zz9 (Asks zz4
 (Asks (decide (Int.ofNat zz1 = Int.ofNat zz1)) (Asks (decide (Int.toNat (Int.ofNat zz1) = List.length (sapp zz7 (intsF [x.lo 7, x.hi 7]))) && true && true && decide (0 < Int.ofNat zz1) && decide (Int.ofNat zz1 ≤ 9223372036854775807) && true) (Asks (decide (x.l = x.l)) (Asks (decide (List.length (sapp zz7 (intsF [x.lo 7, x.hi 7])) + List.length x.l ≤ 9223372036854775807)) (Asks (decide (x.r = x.r)) (Asks (decide (List.length (sapp (sapp zz7 (intsF [x.lo 7, x.hi 7])) x.l) + List.length x.r ≤ 9223372036854775807)) (Asks (Nat.ble (List.length (sapp (sapp (sapp zz7 (intsF [x.lo 7, x.hi 7])) x.l) x.r)) 900000) (Q (AV.str (sumF (sapp (sapp (sapp zz7 (intsF [x.lo 7, x.hi 7])) x.l) x.r))))))))))))))))))))))))))))) (Asks zz13 (Asks (decide (1 ≤ List.length (sapp [] [{ toBitVec := { toFin := ⟨6, Nat.mod_lt 6 (BitVec.ofNat._proof_1 8)⟩ } }])) && true && true && decide ((1 + List.length (intsF [x.lo
 0, x.hi 0])) * 1 ≤ 140737488355328) && (decide (1 = List.length (sapp [] [{ toBitVec := { toFin := ⟨6, Nat.mod_lt 6 (BitVec.ofNat._proof_1 8)⟩ } }])) && true)) (Asks zz14 (Asks (decide (1 + List.length (intsF [x.lo 0, x.hi 0]) ≤ List.length zz6) && true && true && decide ((1 + List.length (intsF [x.lo 0, x.hi 0]) + List.length (intsF [x.lo 1, x.hi 1])) * 1 ≤ 140737488355328) && (decide (1 + List.length (intsF [x.lo 0, x.hi 0]) = List.length zz6) && true)) (Asks zz15 (Asks (decide (1 + List.length (intsF [x.lo 0, x.hi 0]) + List.length (intsF [x.lo 1, x.hi 1]) ≤ List.length (sapp zz6 (intsF [x.lo 1, x.hi 1]))) && true && true && decide ((1 + List.length (intsF [x.lo 0, x.hi 0]) + List.length (intsF [x.lo 1, x.hi 1]) + List.length (intsF [x.lo 2, x.hi 2])) * 1 ≤ 140737488355328) && (decide (1 + List.length (intsF [x.lo 0, x.hi 0]) + List.length (intsF [x.lo 1, x.hi 1]) = List.length (sapp
 zz6 (intsF [x.lo 1, x.hi 1]))) && true)) (Asks zz16 (Asks (decide (1 + List.length (intsF [x.lo 0, x.hi 0]) + List.length (intsF [x.lo 1, x.hi 1]) + List.length (intsF [x.lo 2, x.hi 2]) ≤ List.length (sapp (sapp zz6 (intsF [x.lo 1, x.hi 1])) (intsF [x.lo 2, x.hi 2]))) && true && true && decide zz21 && (decide (1 + List.length (intsF [x.lo 0, x.hi 0]) + List.length (intsF [x.lo 1, x.hi 1]) + List.length (intsF [x.lo 2, x.hi 2]) = List.length (sapp (sapp zz6 (intsF [x.lo 1, x.hi 1])) (intsF [x.lo 2, x.hi 2]))) && true)) (Asks zz17 (Asks (decide (1 + List.length (intsF [x.lo 0, x.hi 0]) + List.length (intsF [x.lo 1, x.hi 1]) + List.length (intsF [x.lo 2, x.hi 2]) + List.length (intsF [x.lo 3, x.hi 3]) ≤ List.length zz3) && true && true && decide zz12 && (decide (1 + List.length (intsF [x.lo 0, x.hi 0]) + List.length (intsF [x.lo 1, x.hi 1]) + List.length (intsF [x.lo 2, x.hi 2]) +
 List.length (intsF [x.lo 3, x.hi 3]) = List.length zz3) && true)) (Asks zz18 (Asks (decide (1 + List.length (intsF [x.lo 0, x.hi 0]) + List.length (intsF [x.lo 1, x.hi 1]) + List.length (intsF [x.lo 2, x.hi 2]) + List.length (intsF [x.lo 3, x.hi 3]) + List.length (intsF [x.lo 4, x.hi 4]) ≤ List.length (sapp zz3 (intsF [x.lo 4, x.hi 4]))) && true && true && decide zz11 && (decide (1 + List.length (intsF [x.lo 0, x.hi 0]) + List.length (intsF [x.lo 1, x.hi 1]) + List.length (intsF [x.lo 2, x.hi 2]) + List.length (intsF [x.lo 3, x.hi 3]) + List.length (intsF [x.lo 4, x.hi 4]) = List.length (sapp zz3 (intsF [x.lo 4, x.hi 4]))) && true)) (Asks zz19 (Asks (decide (1 + List.length (intsF [x.lo 0, x.hi 0]) + List.length (intsF [x.lo 1, x.hi 1]) + List.length (intsF [x.lo 2, x.hi 2]) + List.length (intsF [x.lo 3, x.hi 3]) + List.length (intsF [x.lo 4, x.hi 4]) + List.length (intsF [x.lo 5, x.hi
 5]) ≤ List.length (sapp (sapp zz3 (intsF [x.lo 4, x.hi 4])) (intsF [x.lo 5, x.hi 5]))) && true && true && decide zz10 && (decide (1 + List.length (intsF [x.lo 0, x.hi 0]) + List.length (intsF [x.lo 1, x.hi 1]) + List.length (intsF [x.lo 2, x.hi 2]) + List.length (intsF [x.lo 3, x.hi 3]) + List.length (intsF [x.lo 4, x.hi 4]) + List.length (intsF [x.lo 5, x.hi 5]) = List.length (sapp (sapp zz3 (intsF [x.lo 4, x.hi 4])) (intsF [x.lo 5, x.hi 5]))) && true)) (Asks zz20 (Asks (decide (1 + List.length (intsF [x.lo 0, x.hi 0]) + List.length (intsF [x.lo 1, x.hi 1]) + List.length (intsF [x.lo 2, x.hi 2]) + List.length (intsF [x.lo 3, x.hi 3]) + List.length (intsF [x.lo 4, x.hi 4]) + List.length (intsF [x.lo 5, x.hi 5]) + List.length (intsF [x.lo 6, x.hi 6]) ≤ List.length zz8) && true && true && decide (zz1 * 1 ≤ 140737488355328) && (decide (1 + List.length (intsF [x.lo 0, x.hi 0]) + List.length
 (intsF [x.lo 1, x.hi 1]) + List.length (intsF [x.lo 2, x.hi 2]) + List.length (intsF [x.lo 3, x.hi 3]) + List.length (intsF [x.lo 4, x.hi 4]) + List.length (intsF [x.lo 5, x.hi 5]) + List.length (intsF [x.lo 6, x.hi 6]) = List.length zz8) && true)) (Asks zz9 (Asks zz4 (Asks (decide (Int.ofNat zz1 = Int.ofNat zz1)) (Asks (decide (Int.toNat (Int.ofNat zz1) = List.length (sapp zz8 (intsF [x.lo 7, x.hi 7]))) && true && true && decide (0 < Int.ofNat zz1) && decide (Int.ofNat zz1 ≤ 9223372036854775807) && true) (Asks (decide (x.l = x.l)) (Asks (decide (List.length (sapp zz8 (intsF [x.lo 7, x.hi 7])) + List.length x.l ≤ 9223372036854775807)) (Asks (decide (x.r = x.r)) (Asks (decide (List.length (sapp (sapp zz8 (intsF [x.lo 7, x.hi 7])) x.l) + List.length x.r ≤ 9223372036854775807)) (Asks (Nat.ble (List.length (sapp (sapp (sapp zz8 (intsF [x.lo 7, x.hi 7])) x.l) x.r)) 900000) (Q (AV.str (sumF
 (sapp (sapp (sapp zz8 (intsF [x.lo 7, x.hi 7])) x.l) x.r))))))))))))))))))))))))))))))) := by kernel_rfl
end Go.Sx
end
section
set_option maxRecDepth 1000000
namespace Go.Sx
open Go
def okI (n : Int) : Bool := decide (-4611686018427387903 ≤ n) && decide (n ≤ 4611686018427387903)
theorem intsF_len : ∀ l : List Int, (intsF l).length ≤ 10 * l.length
  | [] => by simp [intsF]
  | a :: l => by
    have := intsF_len l
    have h := putF_len a
    simp only [intsF, List.flatMap_cons, List.length_append, List.length_cons] at *
    omega
def factOk (x : Fact) : Bool := okI x.t && okI x.s && okI x.v && okI x.w && okI x.o && okI x.p && okI x.d && okI x.l && okI x.h && okI x.b
def factInts (x : Fact) : List Int := [x.t, x.s, x.v, x.w, x.o, x.p, x.d, x.l, x.h, x.b]
def loI (x : Fact) (j : Nat) : Int := match j with | 0 => x.t | 1 => x.v | 2 => x.w | 3 => x.o | 4 => x.p | 5 => x.d | 6 => x.b | 7 => x.l | _ => 0
def hiI (x : Fact) (j : Nat) : Int := match j with | 0 => x.t | 1 => x.v | 2 => x.w | 3 => x.o | 4 => x.p | 5 => x.d | 6 => x.b | 7 => x.h | _ => 0
def leafF (x : Fact) : Node := ⟨loI x, hiI x, sumF (intsF (factInts x)), []⟩
theorem nodeAV_le (σ : Nat → Nat) (x : Node) : AVs.le σ (nodeAV x) (nodeAV x) :=
  ⟨⟨rfl, rfl⟩, ⟨rfl, rfl⟩, ⟨rfl, rfl⟩, ⟨rfl, rfl⟩, ⟨rfl, rfl⟩, ⟨rfl, rfl⟩, ⟨rfl, rfl⟩, ⟨rfl, rfl⟩, ⟨rfl, rfl⟩, ⟨rfl, rfl⟩, ⟨rfl, rfl⟩, ⟨rfl, rfl⟩, ⟨rfl, rfl⟩, ⟨rfl, rfl⟩, ⟨rfl, rfl⟩, ⟨rfl, rfl⟩, rfl, rfl, trivial⟩
theorem leaf_ok {x : Fact} (h : factOk x = true) : CallGives PP II 72 [.agg (factAV x)] HB (.ret (.agg (nodeAV (leafF x))) HB) := by
  refine of_kh (ks := [kInts, kSum]) (T := []) (fun σ => nodeAV_le σ _) ?_
  rw [leaf_vc x]
  have hl := intsF_len (factInts x)
  simp only [factOk, okI, Bool.and_eq_true, decide_eq_true_eq] at h
  refine Asks.mk ?_ (Asks.mk ?_ (Asks.mk ?_ (Asks.mk ?_ ?_)))
  · simp only [Bool.and_eq_true, decide_eq_true_eq, and_true]; simp only [h, and_self]
  · simp only [decide_true, Bool.and_self]
  · have e : (factInts x).length = 10 := rfl
    exact Nat.ble_eq_true_of_le (by show (intsF (factInts x)).length ≤ _; omega)
  · simp only [decide_true, Bool.and_self]
  · rfl
def nodeOk (x : Node) : Bool := okI (x.lo 0) && okI (x.lo 1) && okI (x.lo 2) && okI (x.lo 3) && okI (x.lo 4) && okI (x.lo 5) && okI (x.lo 6) && okI (x.lo 7) && okI (x.hi 0) && okI (x.hi 1) && okI (x.hi 2) && okI (x.hi 3) && okI (x.hi 4) && okI (x.hi 5) && okI (x.hi 6) && okI (x.hi 7) && Nat.ble x.l.length 1000 && Nat.ble x.r.length 1000
def boundB (x : Node) (j : Nat) : List UInt8 := intsF [x.lo j, x.hi j]
def boundsB (x : Node) (p : UInt8) : List UInt8 := sapp (sapp (sapp (sapp (sapp (sapp (sapp (sapp (sapp [] [p]) (boundB x 0)) (boundB x 1)) (boundB x 2)) (boundB x 3)) (boundB x 4)) (boundB x 5)) (boundB x 6)) (boundB x 7)
def digF (x : Node) : List UInt8 := sumF (sapp (sapp (boundsB x (bif List.beq x.r [] then 5 else 6)) x.l) x.r)
theorem intAsk {a b : Int} (ha : okI a = true) (hb : okI b = true) : (decide (-4611686018427387903 ≤ a) && decide (a ≤ 4611686018427387903) && (decide (-4611686018427387903 ≤ b) && decide (b ≤ 4611686018427387903) && true) && true && true) = true := by
  unfold okI at ha hb
  rw [ha, hb]; rfl
theorem appAsk {n m k : Nat} (h1 : n = m) (h2 : n ≤ 1000) (h3 : k ≤ 20) : (decide (n ≤ m) && true && true && decide ((n + k) * 1 ≤ 140737488355328) && (decide (n = m) && true)) = true := by
  rw [decide_eq_true (show n ≤ m by omega), decide_eq_true (show (n + k) * 1 ≤ 140737488355328 by omega), decide_eq_true h1]; rfl
theorem eqAsk (n : Nat) : (decide (n = n) && true) = true := by rw [decide_eq_true rfl]; rfl
theorem strAsk {n m : Nat} (h1 : n = m) (h2 : 0 < n) (h3 : n ≤ 1000) : (decide (Int.toNat (Int.ofNat n) = m) && true && true && decide (0 < Int.ofNat n) && decide (Int.ofNat n ≤ 9223372036854775807) && true) = true := by
  have e : Int.toNat (Int.ofNat n) = n := rfl
  have e2 : Int.ofNat n = (n : Int) := rfl
  rw [e, e2, decide_eq_true h1, decide_eq_true (show (0 : Int) < n by omega), decide_eq_true (show (n : Int) ≤ 9223372036854775807 by omega)]; rfl
theorem boundB_len (x : Node) (j : Nat) : (intsF [x.lo j, x.hi j]).length ≤ 20 := intsF_len _
theorem sapp_len (a b : List UInt8) : (sapp a b).length = a.length + b.length := List.length_append
theorem dig42_ok {x : Node} (h : nodeOk x = true) : CallGives PP II 42 [.agg (nodeAV x)] HB (.ret (.str (digF x)) HB) := by
  refine of_kh (ks := [kInts, kSum, kNoEscape]) (T := []) (fun σ => rfl) ?_
  rw [dig42_vc x]
  simp only [nodeOk, Bool.and_eq_true] at h
  obtain ⟨⟨⟨⟨⟨⟨⟨⟨⟨⟨⟨⟨⟨⟨⟨⟨⟨a0, a1⟩, a2⟩, a3⟩, a4⟩, a5⟩, a6⟩, a7⟩, c0⟩, c1⟩, c2⟩, c3⟩, c4⟩, c5⟩, c6⟩, c7⟩, hl⟩, hr⟩ := h
  have hl := Nat.le_of_ble_eq_true hl
  have hr := Nat.le_of_ble_eq_true hr
  have b0 := boundB_len x 0
  have b1 := boundB_len x 1
  have b2 := boundB_len x 2
  have b3 := boundB_len x 3
  have b4 := boundB_len x 4
  have b5 := boundB_len x 5
  have b6 := boundB_len x 6
  have b7 := boundB_len x 7
  refine Cond.mk (fun h => ?_) fun h => ?_
  all_goals
    refine Asks.mk (intAsk a0 c0) (Asks.mk (appAsk (by rfl) (by omega) b0) ?_)
    refine Asks.mk (intAsk a1 c1) (Asks.mk (appAsk (by simp only [sapp_len]; rfl) (by omega) b1) ?_)
    refine Asks.mk (intAsk a2 c2) (Asks.mk (appAsk (by simp only [sapp_len]; rfl) (by omega) b2) ?_)
    refine Asks.mk (intAsk a3 c3) (Asks.mk (appAsk (by simp only [sapp_len]; rfl) (by omega) b3) ?_)
    refine Asks.mk (intAsk a4 c4) (Asks.mk (appAsk (by simp only [sapp_len]; rfl) (by omega) b4) ?_)
    refine Asks.mk (intAsk a5 c5) (Asks.mk (appAsk (by simp only [sapp_len]; rfl) (by omega) b5) ?_)
    refine Asks.mk (intAsk a6 c6) (Asks.mk (appAsk (by simp only [sapp_len]; rfl) (by omega) b6) ?_)
    refine Asks.mk (intAsk a7 c7) (Asks.mk (appAsk (by simp only [sapp_len]; rfl) (by omega) b7) ?_)
    refine Asks.mk (decide_eq_true (by omega)) (Asks.mk (eqAsk _) (Asks.mk (decide_eq_true rfl) (Asks.mk (strAsk (by simp only [sapp_len]; rfl) (by omega) (by omega)) (Asks.mk (decide_eq_true rfl) (Asks.mk (decide_eq_true (by simp only [sapp_len, List.length_cons, List.length_nil]; omega)) (Asks.mk (decide_eq_true rfl) (Asks.mk (decide_eq_true (by simp only [sapp_len, List.length_cons, List.length_nil]; omega)) (Asks.mk (Nat.ble_eq_true_of_le (by simp only [sapp_len, List.length_cons, List.length_nil]; omega)) ?_))))))))
    unfold digF
    rw [h]
    rfl
noncomputable def kLeaf : Known PP II := Known.onHB 72
  (fun X args kn => match args with
    | [.agg cs] => match toFact cs with
      | some x => X.assert (factOk x) (kn (.agg (nodeAV (leafF x))))
      | none => X.fail
    | _ => X.fail)
  fun X sem hX args kn h => by
    split at h
    · rename_i cs
      split at h
      · rename_i x hx
        obtain ⟨h1, h2⟩ := hX.assert _ _ h
        rw [toFact_ok hx]
        exact ⟨_, h2, fun _ => rfl, fun _ => rfl, leaf_ok h1⟩
      · exact absurd h hX.fail
    · exact absurd h hX.fail
def toNode : List AV → Option Node
  | [.int .i64 a0, .int .i64 a1, .int .i64 a2, .int .i64 a3, .int .i64 a4, .int .i64 a5, .int .i64 a6, .int .i64 a7, .int .i64 b0, .int .i64 b1, .int .i64 b2, .int .i64 b3, .int .i64 b4, .int .i64 b5, .int .i64 b6, .int .i64 b7, .str l, .str r] =>
    some ⟨fun j => match j with | 0 => a0 | 1 => a1 | 2 => a2 | 3 => a3 | 4 => a4 | 5 => a5 | 6 => a6 | 7 => a7 | _ => 0, fun j => match j with | 0 => b0 | 1 => b1 | 2 => b2 | 3 => b3 | 4 => b4 | 5 => b5 | 6 => b6 | 7 => b7 | _ => 0, l, r⟩
  | _ => none
theorem toNode_ok {cs : List AV} {x : Node} (h : toNode cs = some x) : cs = nodeAV x := by
  unfold toNode at h
  split at h
  · cases h; rfl
  · cases h
noncomputable def kDig42 : Known PP II := Known.onHB 42
  (fun X args kn => match args with
    | [.agg cs] => match toNode cs with
      | some x => X.assert (nodeOk x) (kn (.str (digF x)))
      | none => X.fail
    | _ => X.fail)
  fun X sem hX args kn h => by
    split at h
    · rename_i cs
      split at h
      · rename_i x hx
        obtain ⟨h1, h2⟩ := hX.assert _ _ h
        rw [toNode_ok hx]
        exact ⟨_, h2, fun _ => rfl, fun _ => rfl, dig42_ok h1⟩
      · exact absurd h hX.fail
    · exact absurd h hX.fail
end Go.Sx
end
