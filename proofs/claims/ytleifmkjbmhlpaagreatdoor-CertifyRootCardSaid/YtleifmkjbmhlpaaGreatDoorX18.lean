/- CertifyRoot is proved, part 18. -/
import Derived.Test.YtleifmkjbmhlpaaGreatDoorX17
set_option linter.unusedVariables false
set_option linter.unusedSimpArgs false
set_option linter.unusedSectionVars false
section
set_option maxRecDepth 1000000
namespace Go.Sx
open Go
noncomputable def s127 (x : List UInt8 × Nat) : St := { t := Tr.ofList [(2, .str []), (3, .int .i64 0), (4, .int .u64 x.2), (5, .own 12 x.1.length 1)], nt := 31, H := { n := 13, t := Tr.ofList [(12, .str x.1 (.ty 5))] }, df := [] }
noncomputable def e127 (l : List UInt8) (z : Nat) : GE := .one (.x 0 (s127 (l, z)))
theorem zig_vc (n : Int) (Q : AV → Prop) : (kb [] [] 167 [.int .i64 n] Q) = (Cond (decide (n < 0)) (Asks (inR .i64 (0 - n)) (Q (AV.int .u64 (Int.emod (Int.emod (Int.emod (0 - n) 18446744073709551616 * 2) 18446744073709551616 - 1) 18446744073709551616)))) (Q (AV.int .u64 (Int.emod (Int.emod n 18446744073709551616 * 2) 18446744073709551616)))) := by kernel_rfl
theorem rput_step (s r : List UInt8) (z zN : Nat) (Q : Prop) : (kr [] [] 127 5002 12 s127 (fun _ => e127 r zN) (fun x => (x.1 ++ [digN x.2], x.2 / 128)) Q (s, z)) = (Cond (decide (Int.ofNat z ≥ 128)) (Asks (decide (List.length s ≤ List.length s) && true && true && decide ((List.length s + 1) * 1 ≤ 140737488355328) && (decide (List.length s = List.length s) && (decide (0 ≤ Int.emod (Int.emod (Int.tmod (Int.ofNat z) 128 + 128) 18446744073709551616) 256) && decide (Int.emod (Int.emod (Int.tmod (Int.ofNat z) 128 + 128) 18446744073709551616) 256 ≤ 255) && true))) (EqB (List.append s [UInt8.ofNat (Int.toNat (Int.emod (Int.emod (Int.tmod (Int.ofNat z) 128 + 128) 18446744073709551616) 256))]) (List.append s [digN z]) (EqN (List.length s + 1) (List.length (List.append s [digN z])) (EqI (Int.emod (Int.tdiv (Int.ofNat z) 128) 18446744073709551616) (Int.ofNat (z / 128)) (EqB [] [] Q))))) (EqB s r
 (EqN (List.length s) (List.length r) (EqI (Int.ofNat z) (Int.ofNat zN) (EqB [] [] True))))) := by kernel_rfl
theorem zig_ok {n : Int} (h1 : -4611686018427387903 ≤ n) (h2 : n ≤ 4611686018427387903) : CallGives PP II 167 [.int .i64 n] (AH.blank 12) (.ret (.int .u64 (zN n)) (AH.blank 12)) := by
  refine of_kb (ks := []) (T := []) (fun _ => ⟨rfl, rfl⟩) ((zig_vc n _).mpr ?_)
  refine Cond.mk (fun h => Asks.mk (inR_small (by omega) (by omega)) ?_) fun h => ?_
  · simp only [decide_eq_true_eq] at h
    congr 1
    unfold zN
    rw [if_neg (by omega)]
    show ((0 - n) % 18446744073709551616 * 2 % 18446744073709551616 - 1) % 18446744073709551616 = _
    omega
  · simp only [decide_eq_false_iff_not] at h
    congr 1
    unfold zN
    rw [if_pos (by omega)]
    show (n % 18446744073709551616 * 2) % 18446744073709551616 = _
    omega
noncomputable def kZig : Known PP II := Known.pure 167
  (fun X args kn => match args with
    | [.int .i64 n] => X.assert (okI n) (kn (.int .u64 (Int.ofNat (zN n))))
    | _ => X.fail)
  fun X sem hX args kn h => by
    split at h
    · obtain ⟨h1, h2⟩ := hX.assert _ _ h
      simp only [okI, Bool.and_eq_true, decide_eq_true_eq] at h1
      exact ⟨_, h2, fun _ => rfl, fun _ => rfl, zig_ok h1.1 h1.2⟩
    · exact absurd h hX.fail
theorem rput_vc (n : Int) (r : List UInt8) (z : Nat) (Q : AV → Prop) : (kb [kZig] [(5002, 12, s127 ([], zN n), e127 r z)] 127 [.int .i64 n] Q) = (Cond (decide (n < (-4611686018427387903 : Int))) (Q (AV.tup [AV.str [], AV.int .i64 10])) (Cond (decide (n > 4611686018427387903)) (Q (AV.tup [AV.str [], AV.int .i64 10])) (Asks (okI n) (LoopAt PP II false (loopOf II 127 5002) 12 (s127 ([], zN n)) (e127 r z) ∧ EqB [] [] (EqI (Int.ofNat (zN n)) (Int.ofNat (zN n)) (EqB [] [] (Asks (decide (List.length r ≤ List.length r) && true && true && decide ((List.length r + 1) * 1 ≤ 140737488355328) && (decide (List.length r = List.length r) && (decide (0 ≤ Int.emod (Int.ofNat z) 256) && decide (Int.emod (Int.ofNat z) 256 ≤ 255) && true))) (Asks (decide (List.length r + 1 = List.length (List.append r [UInt8.ofNat (Int.toNat (Int.emod (Int.ofNat z) 256))]))) (Q (AV.tup [AV.str (List.append r [UInt8.ofNat
 (Int.toNat (Int.emod (Int.ofNat z) 256))]), AV.int .i64 0])))))))))) := by kernel_rfl
def preG : Nat → Nat → List UInt8 × Nat
  | 0, z => ([], z)
  | f + 1, z => match Nat.blt z 128 with
    | true => ([], z)
    | false => (digN z :: (preG f (z / 128)).1, (preG f (z / 128)).2)
theorem preG_succ (k z : Nat) : preG (k + 1) z = match Nat.blt z 128 with | true => ([], z) | false => (digN z :: (preG k (z / 128)).1, (preG k (z / 128)).2) := rfl
theorem preG_put : ∀ {f z : Nat}, z < 128 ^ f → 0 < f → putG f z = (preG f z).1 ++ [UInt8.ofNat (preG f z).2] ∧ (preG f z).2 < 128
  | 0, _, _, h => absurd h (Nat.lt_irrefl _)
  | f + 1, z, h, _ => by
    unfold putG preG
    cases hb : Nat.blt z 128 with
    | true => exact ⟨rfl, (Nat.blt_eq ..).mp hb⟩
    | false =>
      have hz : ¬ z < 128 := fun e => by rw [(Nat.blt_eq ..).mpr e] at hb; cases hb
      have hf : 0 < f := by
        cases f with
        | zero => simp at h; omega
        | succ f => omega
      have := preG_put (f := f) (z := z / 128) (by rw [Nat.div_lt_iff_lt_mul (by omega)]; rw [Nat.pow_succ] at h; exact h) hf
      exact ⟨by show digN z :: putG f (z / 128) = _; rw [this.1]; rfl, this.2⟩
theorem preG_len : ∀ f z, (preG f z).1.length ≤ f
  | 0, _ => Nat.zero_le _
  | f + 1, z => by
    unfold preG
    split
    · exact Nat.zero_le _
    · show (preG f (z / 128)).1.length + 1 ≤ f + 1
      have := preG_len f (z / 128)
      omega
theorem rput_loop {z0 : Nat} (hz0 : z0 < 18446744073709551616) : LoopAt PP II false (loopOf II 127 5002) 12 (s127 ([], z0)) (e127 (preG 10 z0).1 (preG 10 z0).2) :=
  LoopAt.of (ι := List UInt8 × Nat) hII [] (lamT_ok PP II []) 1000 12 (fun x => x.2 < 18446744073709551616 ∧ ∃ k, x.2 < 128 ^ k ∧ 0 < k ∧ x.1.length + k = 10 ∧ (preG 10 z0).1 = x.1 ++ (preG k x.2).1 ∧ (preG 10 z0).2 = (preG k x.2).2) s127 (fun _ => e127 (preG 10 z0).1 (preG 10 z0).2) (fun x => x.2) (fun x => (x.1 ++ [digN x.2], x.2 / 128)) ([], z0) rfl
    ⟨hz0, 10, by show z0 < _; omega, by omega, rfl, rfl, rfl⟩ fun x hx => by
    obtain ⟨s, z⟩ := x
    obtain ⟨hz, k, hk, hk0, hl, hr, hr2⟩ := hx
    change z < _ at hz
    change z < 128 ^ k at hk
    change s.length + k = 10 at hl
    change (preG 10 z0).1 = s ++ (preG k z).1 at hr
    change (preG 10 z0).2 = (preG k z).2 at hr2
    obtain ⟨k, rfl⟩ : ∃ m, k = m + 1 := ⟨k - 1, by omega⟩
    have eZ : Int.ofNat z = (z : Int) := rfl
    refine (rput_step s (preG 10 z0).1 z (preG 10 z0).2 _).mpr (Cond.mk (fun h => ?_) fun h => ?_)
    · simp only [decide_eq_true_eq, ge_iff_le, eZ] at h
      have hb : Nat.blt z 128 = false := bltF (by omega)
      have e1 : preG (k + 1) z = (digN z :: (preG k (z / 128)).1, (preG k (z / 128)).2) := by rw [preG_succ, hb]
      have t1 : Int.tmod (Int.ofNat z) 128 = ((z % 128 : Nat) : Int) := rfl
      have t2 : Int.tdiv (Int.ofNat z) 128 = ((z / 128 : Nat) : Int) := rfl
      have t3 : Int.emod (Int.emod (Int.tmod (Int.ofNat z) 128 + 128) 18446744073709551616) 256 = ((z % 128 + 128 : Nat) : Int) := by
        rw [t1]
        show (((z % 128 : Nat) : Int) + 128) % 18446744073709551616 % 256 = _
        omega
      have t4 : Int.emod (Int.tdiv (Int.ofNat z) 128) 18446744073709551616 = Int.ofNat (z / 128) := by
        rw [t2]
        show ((z / 128 : Nat) : Int) % 18446744073709551616 = ((z / 128 : Nat) : Int)
        omega
      have hk1 : z / 128 < 128 ^ k := by rw [Nat.div_lt_iff_lt_mul (by omega)]; rw [Nat.pow_succ] at hk; exact hk
      have hk2 : 0 < k := by
        cases k with
        | zero => simp at hk; omega
        | succ k => omega
      rw [t3, t4]
      have ask : (decide ((0 : Int) ≤ ((z % 128 + 128 : Nat) : Int)) && decide (((z % 128 + 128 : Nat) : Int) ≤ 255) && true) = true := by
        rw [decide_eq_true (by omega), decide_eq_true (by omega)]; rfl
      refine Asks.mk ?_ (EqB.mk rfl (EqN.mk ?_ (EqI.mk rfl (EqB.mk rfl ⟨⟨by show z / 128 < _; omega, k, hk1, hk2, ?_, ?_, ?_⟩, by show z / 128 < z; omega, rfl⟩))))
      · rw [ask, decide_eq_true (Nat.le_refl _), decide_eq_true (show (s.length + 1) * 1 ≤ 140737488355328 by omega), decide_eq_true rfl]; rfl
      · show _ = (s ++ [digN z]).length
        simp
      · show (s ++ [digN z]).length + k = 10
        simp; omega
      · show _ = (s ++ [digN z]) ++ _
        rw [hr, e1]; simp
      · show _ = (preG k (z / 128)).2
        rw [hr2, e1]
    · simp only [decide_eq_false_iff_not, ge_iff_le, eZ] at h
      have hb : Nat.blt z 128 = true := (Nat.blt_eq ..).mpr (by omega)
      have e1 : preG (k + 1) z = ([], z) := by rw [preG_succ, hb]
      rw [hr, hr2, e1]
      exact EqB.mk (List.append_nil s).symm (EqN.mk (by simp) (EqI.mk rfl (EqB.mk rfl trivial)))
theorem rput_ok {n : Int} (h1 : -4611686018427387903 ≤ n) (h2 : n ≤ 4611686018427387903) : CallGives PP II 127 [.int .i64 n] (AH.blank 12) (.ret (.tup [.str (putF n), .int .i64 0]) (AH.blank 12)) := by
  have hz := zN_lt h1 h2
  obtain ⟨p1, p2⟩ := preG_put (f := 10) (z := zN n) (by show zN n < _; omega) (by omega)
  have pl := preG_len 10 (zN n)
  refine of_kb (ks := [kZig]) (T := [(5002, 12, s127 ([], zN n), e127 (preG 10 (zN n)).1 (preG 10 (zN n)).2)]) (fun _ => ⟨rfl, ⟨rfl, rfl⟩, trivial⟩) ?_
  rw [rput_vc]
  have em : Int.emod (Int.ofNat (preG 10 (zN n)).2) 256 = ((preG 10 (zN n)).2 : Int) := by
    show ((preG 10 (zN n)).2 : Int) % 256 = _
    omega
  refine Cond.mk (fun h => ?_) fun _ => Cond.mk (fun h => ?_) fun _ => Asks.mk (by unfold okI; rw [decide_eq_true h1, decide_eq_true h2]; rfl) ⟨rput_loop hz, EqB.mk rfl (EqI.mk rfl (EqB.mk rfl (Asks.mk ?_ (Asks.mk ?_ ?_))))⟩
  · simp only [decide_eq_true_eq] at h; omega
  · simp only [decide_eq_true_eq, gt_iff_lt] at h; omega
  · rw [em, decide_eq_true (Nat.le_refl _), decide_eq_true (show ((preG 10 (zN n)).1.length + 1) * 1 ≤ 140737488355328 by omega), decide_eq_true rfl, decide_eq_true (show (0 : Int) ≤ _ by omega), decide_eq_true (show ((preG 10 (zN n)).2 : Int) ≤ 255 by omega)]; rfl
  · refine decide_eq_true ?_
    show _ = ((preG 10 (zN n)).1 ++ [_]).length
    simp
  · rw [em]
    have e : putF n = List.append (preG 10 (zN n)).1 [UInt8.ofNat (Int.toNat ((preG 10 (zN n)).2 : Int))] := p1
    rw [e]
noncomputable def kRPut : Known PP II := Known.pure 127
  (fun X args kn => match args with
    | [.int .i64 n] => X.assert (okI n) (kn (.tup [.str (putF n), .int .i64 0]))
    | _ => X.fail)
  fun X sem hX args kn h => by
    split at h
    · obtain ⟨h1, h2⟩ := hX.assert _ _ h
      simp only [okI, Bool.and_eq_true, decide_eq_true_eq] at h1
      exact ⟨_, h2, fun _ => rfl, fun _ => rfl, rput_ok h1.1 h1.2⟩
    · exact absurd h hX.fail
end Go.Sx
end
section
set_option maxRecDepth 1000000
namespace Go.Sx
open Go
theorem join_vc (x y : Node) (Q : AV → Prop) : (kh [kDig42] [] 74 [.agg (nodeAV x), .agg (nodeAV y)] Q) = (let zz1 := (Q (AV.agg [AV.int .i64 (if y.lo 0 < x.lo 0 then y.lo 0 else x.lo 0), AV.int .i64 (if y.lo 1 < x.lo 1 then y.lo 1 else x.lo 1), AV.int .i64 (if y.lo 2 < x.lo 2 then y.lo 2 else x.lo 2), AV.int .i64 (if y.lo 3 < x.lo 3 then y.lo 3 else x.lo 3), AV.int .i64 (if y.lo 4 < x.lo 4 then y.lo 4 else x.lo 4), AV.int .i64 (if y.lo 5 < x.lo 5 then y.lo 5 else x.lo 5), AV.int .i64 (if y.lo 6 < x.lo 6 then y.lo 6 else x.lo 6), AV.int .i64 (if y.lo 7 < x.lo 7 then y.lo 7 else x.lo 7), AV.int .i64 (if y.hi 0 > x.hi 0 then y.hi 0 else x.hi 0), AV.int .i64 (if y.hi 1 > x.hi 1 then y.hi 1 else x.hi 1), AV.int .i64 (if y.hi 2 > x.hi 2 then y.hi 2 else x.hi 2), AV.int .i64 (if y.hi 3 > x.hi 3 then y.hi 3 else x.hi 3), AV.int .i64 (if y.hi 4 > x.hi 4 then y.hi 4 else x.hi 4), AV.int .i64 (if
 y.hi 5 > x.hi 5 then y.hi 5 else x.hi 5), AV.int .i64 (if y.hi 6 > x.hi 6 then y.hi 6 else x.hi 6), AV.int .i64 (if y.hi 7 > x.hi 7 then y.hi 7 else x.hi 7), AV.str (digF { lo := fun j => if h : j = 0 then x.lo 0 else if h : j = 1 then x.lo 1 else if h : j = 2 then x.lo 2 else if h : j = 3 then x.lo 3 else if h : j = 4 then x.lo 4 else if h : j = 5 then x.lo 5 else if h : j = 6 then x.lo 6 else if h : j = 7 then x.lo 7 else 0, hi := fun j => if h : j = 0 then x.hi 0 else if h : j = 1 then x.hi 1 else if h : j = 2 then x.hi 2 else if h : j = 3 then x.hi 3 else if h : j = 4 then x.hi 4 else if h : j = 5 then x.hi 5 else if h : j = 6 then x.hi 6 else if h : j = 7 then x.hi 7 else 0, l := x.l, r := x.r }), AV.str (digF { lo := fun j => if h : j = 0 then y.lo 0 else if h : j = 1 then y.lo 1 else if h : j = 2 then y.lo 2 else if h : j = 3 then y.lo 3 else if h : j = 4 then y.lo 4 else if h : j = 5 then y.lo 5 else if h : j = 6 then y.lo 6 else if h : j = 7 then y.lo 7 else 0, hi := fun j => if h : j = 0 then y.hi 0 else if h : j = 1 then y.hi 1 else if h : j = 2 then y.hi 2 else if h : j = 3 then y.hi 3 else if h : j = 4 then y.hi 4 else if h : j = 5 then y.hi 5 else if h : j = 6 then y.hi 6 else if h : j = 7 then y.hi 7 else 0, l := y.l, r := y.r })]));
 let zz2 := (decide (x.lo 0 = x.lo 0) && (decide (x.lo 1 = x.lo 1) && (decide (x.lo 2 = x.lo 2) && (decide (x.lo 3 = x.lo 3) && (decide (x.lo 4 = x.lo 4) && (decide (x.lo 5 = x.lo 5) && (decide (x.lo 6 = x.lo 6) && (decide (x.lo 7 = x.lo 7) && (decide (x.hi 0 = x.hi 0) && (decide (x.hi 1 = x.hi 1) && (decide (x.hi 2 = x.hi 2) && (decide (x.hi 3 = x.hi 3) && (decide (x.hi 4 = x.hi 4) && (decide (x.hi 5 = x.hi 5) && (decide (x.hi 6 = x.hi 6) && (decide (x.hi 7 = x.hi 7) && true)))))))))))))))); (Asks (nodeOk { lo := fun j => if h : j = 0 then x.lo 0 else if h : j = 1 then x.lo 1 else if h : j = 2 then x.lo 2 else if h : j = 3 then x.lo 3 else if h : j = 4 then x.lo 4 else if h : j = 5 then x.lo 5 else if h : j = 6 then x.lo 6 else if h : j = 7 then x.lo 7 else 0, hi := fun j => if h : j = 0 then x.hi 0 else if h : j = 1 then x.hi 1 else if h : j = 2 then x.hi 2 else if h : j = 3 then x.hi 3 else if h : j = 4 then x.hi 4 else if h : j = 5 then x.hi 5 else if h : j = 6 then x.hi 6 else if h : j = 7 then x.hi 7 else 0, l := x.l, r := x.r })
 (Asks zz2 (Asks (decide (y.lo 0 = y.lo 0) && (decide (y.lo 1 = y.lo 1) && (decide (y.lo 2 = y.lo 2) && (decide (y.lo 3 = y.lo 3) && (decide (y.lo 4 = y.lo 4) && (decide (y.lo 5 = y.lo 5) && (decide (y.lo 6 = y.lo 6) && (decide (y.lo 7 = y.lo 7) && (decide (y.hi 0 = y.hi 0) && (decide (y.hi 1 = y.hi 1) && (decide (y.hi 2 = y.hi 2) && (decide (y.hi 3 = y.hi 3) && (decide (y.hi 4 = y.hi 4) && (decide (y.hi 5 = y.hi 5) && (decide (y.hi 6 = y.hi 6) && (decide (y.hi 7 = y.hi 7) && (decide (y.l = y.l) && (decide (y.r = y.r) && true)))))))))))))))))) (Asks (nodeOk { lo := fun j => if h : j = 0 then y.lo 0 else if h : j = 1 then y.lo 1 else if h : j = 2 then y.lo 2 else if h : j = 3 then y.lo 3 else if h : j = 4 then y.lo 4 else if h : j = 5 then y.lo 5 else if h : j = 6 then y.lo 6 else if h : j = 7 then y.lo 7 else 0, hi := fun j => if h : j = 0 then y.hi 0 else if h : j = 1 then y.hi 1 else if h : j = 2 then y.hi 2 else if h : j = 3 then y.hi 3 else if h : j = 4 then y.hi 4 else if h : j = 5 then y.hi 5 else if h : j = 6 then y.hi 6 else if h : j = 7 then y.hi 7 else 0, l := y.l, r := y.r })
 (Asks zz2 (Cond (decide (y.lo 0 = x.lo 0) && (decide (y.lo 1 = x.lo 1) && (decide (y.lo 2 = x.lo 2) && (decide (y.lo 3 = x.lo 3) && (decide (y.lo 4 = x.lo 4) && (decide (y.lo 5 = x.lo 5) && (decide (y.lo 6 = x.lo 6) && (decide (y.lo 7 = x.lo 7) && true)))))))) (Cond (decide (y.hi 0 = x.hi 0) && (decide (y.hi 1 = x.hi 1) && (decide (y.hi 2 = x.hi 2) && (decide (y.hi 3 = x.hi 3) && (decide (y.hi 4 = x.hi 4) && (decide (y.hi 5 = x.hi 5) && (decide (y.hi 6 = x.hi 6) && (decide (y.hi 7 = x.hi 7) && true)))))))) (Q (AV.agg [AV.int .i64 (x.lo 0), AV.int .i64 (x.lo 1), AV.int .i64 (x.lo 2), AV.int .i64 (x.lo 3), AV.int .i64 (x.lo 4), AV.int .i64 (x.lo 5), AV.int .i64 (x.lo 6), AV.int .i64 (x.lo 7), AV.int .i64 (x.hi 0), AV.int .i64 (x.hi 1), AV.int .i64 (x.hi 2), AV.int .i64 (x.hi 3), AV.int .i64 (x.hi 4), AV.int .i64 (x.hi 5), AV.int .i64 (x.hi 6), AV.int .i64 (x.hi 7), AV.str (digF { lo := fun j => if h : j = 0 then x.lo 0 else if h : j = 1 then x.lo 1 else if h : j = 2 then x.lo 2 else if h : j = 3 then x.lo 3 else if h : j = 4 then x.lo 4 else if h : j = 5 then x.lo 5 else if h : j = 6 then x.lo 6 else if h : j = 7 then x.lo 7 else 0, hi := fun j => if h : j = 0 then x.hi 0 else if h : j = 1 then x.hi 1 else if h : j = 2 then x.hi 2 else if h : j = 3 then x.hi 3 else if h : j = 4 then x.hi 4 else if h : j = 5 then x.hi 5 else if h : j = 6 then x.hi 6 else if h : j = 7 then x.hi 7 else 0, l := x.l, r := x.r }),
 AV.str (digF { lo := fun j => if h : j = 0 then y.lo 0 else if h : j = 1 then y.lo 1 else if h : j = 2 then y.lo 2 else if h : j = 3 then y.lo 3 else if h : j = 4 then y.lo 4 else if h : j = 5 then y.lo 5 else if h : j = 6 then y.lo 6 else if h : j = 7 then y.lo 7 else 0, hi := fun j => if h : j = 0 then y.hi 0 else if h : j = 1 then y.hi 1 else if h : j = 2 then y.hi 2 else if h : j = 3 then y.hi 3 else if h : j = 4 then y.hi 4 else if h : j = 5 then y.hi 5 else if h : j = 6 then y.hi 6 else if h : j = 7 then y.hi 7 else 0, l := y.l, r := y.r })])) zz1) zz1))))))) := by kernel_rfl
theorem root41_vc (n : Int) (s : List UInt8) (Q : AV → Prop) : (kh [kInts, kSum] [] 41 [.int .i64 n, .str s] Q) = (Asks (decide ((-4611686018427387903 : Int) ≤ n) && decide (n ≤ 4611686018427387903) && true && true && true) (Asks (decide (1 + List.length (intsF [n]) ≤ 9223372036854775807)) (Asks (decide (List.length (sapp [{ toBitVec := { toFin := ⟨7, Nat.mod_lt 7 (BitVec.ofNat._proof_1 8)⟩ } }] (intsF [n])) + List.length s ≤ 9223372036854775807)) (Asks (Nat.ble (List.length (sapp (sapp [{ toBitVec := { toFin := ⟨7, Nat.mod_lt 7 (BitVec.ofNat._proof_1 8)⟩ } }] (intsF [n])) s)) 900000) (Q (AV.str (sumF (sapp (sapp [{ toBitVec := { toFin := ⟨7, Nat.mod_lt 7 (BitVec.ofNat._proof_1 8)⟩ } }] (intsF [n])) s)))))))) := by kernel_rfl
end Go.Sx
end
section
set_option maxRecDepth 1000000
namespace Go.Sx
open Go
def minI (a b : Int) : Int := if b < a then b else a
def maxI (a b : Int) : Int := if b > a then b else a
def joinF (x y : Node) : Node := ⟨fun j => minI (x.lo j) (y.lo j), fun j => maxI (x.hi j) (y.hi j), digF x, digF y⟩
theorem okMin {a b : Int} (ha : okI a = true) (hb : okI b = true) : okI (minI a b) = true := by
  unfold minI; split <;> assumption
theorem okMax {a b : Int} (ha : okI a = true) (hb : okI b = true) : okI (maxI a b) = true := by
  unfold maxI; split <;> assumption
theorem digF_len (x : Node) : (digF x).length = 32 := rfl
theorem joinF_ok {x y : Node} (hx : nodeOk x = true) (hy : nodeOk y = true) : nodeOk (joinF x y) = true := by
  simp only [nodeOk, Bool.and_eq_true] at hx hy ⊢
  obtain ⟨⟨⟨⟨⟨⟨⟨⟨⟨⟨⟨⟨⟨⟨⟨⟨⟨a0, a1⟩, a2⟩, a3⟩, a4⟩, a5⟩, a6⟩, a7⟩, c0⟩, c1⟩, c2⟩, c3⟩, c4⟩, c5⟩, c6⟩, c7⟩, _⟩, _⟩ := hx
  obtain ⟨⟨⟨⟨⟨⟨⟨⟨⟨⟨⟨⟨⟨⟨⟨⟨⟨b0, b1⟩, b2⟩, b3⟩, b4⟩, b5⟩, b6⟩, b7⟩, d0⟩, d1⟩, d2⟩, d3⟩, d4⟩, d5⟩, d6⟩, d7⟩, _⟩, _⟩ := hy
  exact ⟨⟨⟨⟨⟨⟨⟨⟨⟨⟨⟨⟨⟨⟨⟨⟨⟨okMin a0 b0, okMin a1 b1⟩, okMin a2 b2⟩, okMin a3 b3⟩, okMin a4 b4⟩, okMin a5 b5⟩, okMin a6 b6⟩, okMin a7 b7⟩, okMax c0 d0⟩, okMax c1 d1⟩, okMax c2 d2⟩, okMax c3 d3⟩, okMax c4 d4⟩, okMax c5 d5⟩, okMax c6 d6⟩, okMax c7 d7⟩, rfl⟩, rfl⟩
theorem leafF_ok {x : Fact} (h : factOk x = true) : nodeOk (leafF x) = true := by
  simp only [factOk, Bool.and_eq_true] at h
  obtain ⟨⟨⟨⟨⟨⟨⟨⟨⟨h0, h1⟩, h2⟩, h3⟩, h4⟩, h5⟩, h6⟩, h7⟩, h8⟩, h9⟩ := h
  simp only [nodeOk, Bool.and_eq_true]
  exact ⟨⟨⟨⟨⟨⟨⟨⟨⟨⟨⟨⟨⟨⟨⟨⟨⟨h0, h2⟩, h3⟩, h4⟩, h5⟩, h6⟩, h9⟩, h7⟩, h0⟩, h2⟩, h3⟩, h4⟩, h5⟩, h6⟩, h9⟩, h8⟩, rfl⟩, rfl⟩
theorem minI_same {a b : Int} (h : b = a) : minI a b = a := by rw [h]; unfold minI; exact ite_self _
theorem maxI_same {a b : Int} (h : b = a) : maxI a b = a := by rw [h]; unfold maxI; exact ite_self _
theorem joinF_same {x y : Node} (h : y.lo 0 = x.lo 0 ∧ y.lo 1 = x.lo 1 ∧ y.lo 2 = x.lo 2 ∧ y.lo 3 = x.lo 3 ∧ y.lo 4 = x.lo 4 ∧ y.lo 5 = x.lo 5 ∧ y.lo 6 = x.lo 6 ∧ y.lo 7 = x.lo 7 ∧ True)
    (h2 : y.hi 0 = x.hi 0 ∧ y.hi 1 = x.hi 1 ∧ y.hi 2 = x.hi 2 ∧ y.hi 3 = x.hi 3 ∧ y.hi 4 = x.hi 4 ∧ y.hi 5 = x.hi 5 ∧ y.hi 6 = x.hi 6 ∧ y.hi 7 = x.hi 7 ∧ True) : nodeAV (joinF x y) = nodeAV ⟨x.lo, x.hi, digF x, digF y⟩ := by
  obtain ⟨a0, a1, a2, a3, a4, a5, a6, a7, _⟩ := h
  obtain ⟨c0, c1, c2, c3, c4, c5, c6, c7, _⟩ := h2
  unfold nodeAV joinF
  dsimp only
  rw [minI_same a0, minI_same a1, minI_same a2, minI_same a3, minI_same a4, minI_same a5, minI_same a6, minI_same a7, maxI_same c0, maxI_same c1, maxI_same c2, maxI_same c3, maxI_same c4, maxI_same c5, maxI_same c6, maxI_same c7]
theorem join_ok {x y : Node} (hx : nodeOk x = true) (hy : nodeOk y = true) : CallGives PP II 74 [.agg (nodeAV x), .agg (nodeAV y)] HB (.ret (.agg (nodeAV (joinF x y))) HB) := by
  refine of_kh (ks := [kDig42]) (T := []) (fun σ => nodeAV_le σ _) ?_
  rw [join_vc x y]
  refine Asks.mk ((rfl : _ = nodeOk x).trans hx) (Asks.mk ?_ (Asks.mk ?_ (Asks.mk ((rfl : _ = nodeOk y).trans hy) (Asks.mk ?_ (Cond.mk (fun h => Cond.mk (fun h2 => ?_) fun _ => rfl) fun _ => rfl)))))
  · simp only [decide_true, Bool.and_self]
  · simp only [decide_true, Bool.and_self]
  · simp only [decide_true, Bool.and_self]
  · simp only [Bool.and_eq_true, decide_eq_true_eq] at h h2
    have key := joinF_same (x := x) (y := y) h h2
    rw [key]
    rfl
noncomputable def kJoin : Known PP II := Known.onHB 74
  (fun X args kn => match args with
    | [.agg cs, .agg ds] => match toNode cs, toNode ds with
      | some x, some y => X.assert (nodeOk x && nodeOk y) (kn (.agg (nodeAV (joinF x y))))
      | _, _ => X.fail
    | _ => X.fail)
  fun X sem hX args kn h => by
    split at h
    · rename_i cs ds
      split at h
      · rename_i x y hx hy
        obtain ⟨h1, h2⟩ := hX.assert _ _ h
        simp only [Bool.and_eq_true] at h1
        rw [toNode_ok hx, toNode_ok hy]
        exact ⟨_, h2, fun _ => rfl, fun _ => rfl, join_ok h1.1 h1.2⟩
      · exact absurd h hX.fail
    · exact absurd h hX.fail
def rootF (n : Int) (s : List UInt8) : List UInt8 := sumF (sapp (sapp [7] (intsF [n])) s)
end Go.Sx
end
section
set_option maxRecDepth 1000000
namespace Go.Sx
open Go
noncomputable def s85 (l : List Int) (x : Int × List UInt8) : St := { t := Tr.ofList [(0, intsAV l), (2, .str []), (3, .bool false), (4, .str x.2), (5, .int .i64 x.1)], nt := 28, H := AH.blank 12, df := [] }
noncomputable def e85 (l : List Int) (r : List UInt8) : GE := .one (.x 0 { t := Tr.ofList [(4, .str r)], nt := 28, H := AH.blank 12, df := [] })
theorem num_step (l : List Int) (i : Int) (a r : List UInt8) (Q : Prop) : (kr [kRPut] [] 85 3004 12 (s85 l) (fun _ => e85 l r) (fun x => (x.1 + 1, x.2 ++ putF (atI l x.1.toNat))) Q (i, a)) = (Cond (decide (i < Int.ofNat (List.length l))) (Asks (decide (0 ≤ i) && decide (i < Int.ofNat (List.length l))) (Asks (okI (Option.getD (List.get?Internal l (Int.toNat i)) 0)) (Asks (decide (List.length a + List.length (putF (Option.getD (List.get?Internal l (Int.toNat i)) 0)) ≤ 9223372036854775807)) (Asks (inR .i64 (i + 1)) (false = false ∧ EqI (i + 1) (i + 1) (EqN (List.length l) (List.length l) ((RowsLe (List.length l) (fun i => [AV.int .i64 (Option.getD (List.get?Internal l i) 0)]) fun i => [AV.int .i64 (Option.getD (List.get?Internal l i) 0)]) ∧ EqB (sapp a (putF (Option.getD (List.get?Internal l (Int.toNat i)) 0))) (List.append a (putF (Option.getD (List.get?Internal l (Int.toNat i)) 0))) (EqB
 [] [] Q)))))))) (EqB a r True)) := by kernel_rfl
theorem num_vc (l : List Int) (r : List UInt8) (Q : AV → Prop) : (kb [] [(3004, 12, s85 l (0, []), e85 l r)] 85 [intsAV l] Q) = (LoopAt PP II false (loopOf II 85 3004) 12 (s85 l (0, [])) (e85 l r) ∧ false = false ∧ EqN (List.length l) (List.length l) ((RowsLe (List.length l) (fun i => [AV.int .i64 (Option.getD (List.get?Internal l i) 0)]) fun i => [AV.int .i64 (Option.getD (List.get?Internal l i) 0)]) ∧ EqB [] [] (EqB [] [] (Q (AV.tup [AV.str r, AV.bool true]))))) := by kernel_rfl
noncomputable def s88 (n k : Int) : St := { t := Tr.ofList [(0, .int .i64 n), (3, .int .i64 k)], nt := 11, H := AH.blank 12, df := [] }
noncomputable def e88 (n : Int) (m : Nat) : GE := .one (.x 0 (s88 n (halfN m)))
theorem rhalf_step (n k : Int) (m : Nat) (Q : Prop) : (kr [] [] 88 2004 12 (s88 n) (fun _ => e88 n m) (fun k => 2 * k) Q k) = (Asks (inR IntKind.i64 ((2 : Int) * k)) (Cond (decide ((2 : Int) * k < n)) (Asks (inR IntKind.i64 ((2 : Int) * k)) (EqI ((2 : Int) * k) ((2 : Int) * k) (EqI n n Q))) (EqI k (Int.ofNat (halfN m)) (EqI n n True)))) := by kernel_rfl
theorem rhalf_vc (n : Int) (m : Nat) (Q : AV → Prop) : (kb [] [(2004, 12, s88 n 1, e88 n m)] 88 [.int .i64 n] Q) = (LoopAt PP II false (loopOf II (88 : Nat) (2004 : Nat)) (12 : Nat) (s88 n (1 : Int)) (e88 n m) ∧ EqI n n (Q (AV.int IntKind.i64 (Int.ofNat (halfN m))))) := by kernel_rfl
def coverAV (lo hi : Nat → Int) : List AV := [.int .i64 (lo 0), .int .i64 (lo 1), .int .i64 (lo 2), .int .i64 (lo 3), .int .i64 (lo 4), .int .i64 (lo 5), .int .i64 (lo 6), .int .i64 (lo 7), .int .i64 (hi 0), .int .i64 (hi 1), .int .i64 (hi 2), .int .i64 (hi 3), .int .i64 (hi 4), .int .i64 (hi 5), .int .i64 (hi 6), .int .i64 (hi 7)]
theorem both_vc (lo hi lo' hi' : Nat → Int) (Q : AV → Prop) : (kb [] [] 89 [.agg (coverAV lo hi), .agg (coverAV lo' hi')] Q) = (Asks (inR .i64 1) (Asks (inR .i64 2) (Asks (inR .i64 3) (Asks (inR .i64 4) (Asks (inR .i64 5) (Asks (inR .i64 6) (Asks (inR .i64 7) (Asks (inR .i64 8) (Q (AV.agg [AV.int .i64 (if lo' 0 < lo 0 then lo' 0 else lo 0), AV.int .i64 (if lo' 1 < lo 1 then lo' 1 else lo 1), AV.int .i64 (if lo' 2 < lo 2 then lo' 2 else lo 2), AV.int .i64 (if lo' 3 < lo 3 then lo' 3 else lo 3), AV.int .i64 (if lo' 4 < lo 4 then lo' 4 else lo 4), AV.int .i64 (if lo' 5 < lo 5 then lo' 5 else lo 5), AV.int .i64 (if lo' 6 < lo 6 then lo' 6 else lo 6), AV.int .i64 (if lo' 7 < lo 7 then lo' 7 else lo 7), AV.int .i64 (if hi' 0 > hi 0 then hi' 0 else hi 0), AV.int .i64 (if hi' 1 > hi 1 then hi' 1 else hi 1), AV.int .i64 (if hi' 2 > hi 2 then hi' 2 else hi 2), AV.int .i64 (if hi' 3 > hi 3 then hi'
 3 else hi 3), AV.int .i64 (if hi' 4 > hi 4 then hi' 4 else hi 4), AV.int .i64 (if hi' 5 > hi 5 then hi' 5 else hi 5), AV.int .i64 (if hi' 6 > hi 6 then hi' 6 else hi 6), AV.int .i64 (if hi' 7 > hi 7 then hi' 7 else hi 7)])))))))))) := by kernel_rfl
theorem of_vc (x : Fact) (Q : AV → Prop) : (kb [] [] 15 [.agg (factAV x)] Q) = (Q (AV.agg [AV.int .i64 x.t, AV.int .i64 x.v, AV.int .i64 x.w, AV.int .i64 x.o, AV.int .i64 x.p, AV.int .i64 x.d, AV.int .i64 x.b, AV.int .i64 x.l, AV.int .i64 x.t, AV.int .i64 x.v, AV.int .i64 x.w, AV.int .i64 x.o, AV.int .i64 x.p, AV.int .i64 x.d, AV.int .i64 x.b, AV.int .i64 x.h])) := by kernel_rfl
end Go.Sx
end
