/- CertifyRoot is proved, part 19. -/
import Derived.Test.YtleifmkjbmhlpaaGreatDoorX18
set_option linter.unusedVariables false
set_option linter.unusedSimpArgs false
set_option linter.unusedSectionVars false
section
set_option maxRecDepth 1000000
namespace Go.Sx
open Go
theorem num_loop {l : List Int} (hl : intsB l = true) (h1 : l.length ≤ 1000) : LoopAt PP II false (loopOf II 85 3004) 12 (s85 l (0, [])) (e85 l (intsF l)) :=
  LoopAt.of (ι := Int × List UInt8) hII [kRPut] (lamT_ok PP II []) 1000 12 (fun x => ∃ k : Nat, k ≤ l.length ∧ x.1 = (k : Int) ∧ x.2 = preI l k) (s85 l) (fun _ => e85 l (intsF l)) (fun x => (l.length - x.1).toNat) (fun x => (x.1 + 1, x.2 ++ putF (atI l x.1.toNat))) (0, []) rfl
    ⟨0, Nat.zero_le _, rfl, rfl⟩ fun x hx => by
    obtain ⟨i, a⟩ := x
    obtain ⟨k, hk, h2, h3⟩ := hx
    change i = (k : Int) at h2
    change a = preI l k at h3
    have eL : Int.ofNat (List.length l) = (l.length : Int) := rfl
    refine (num_step l i a (intsF l) _).mpr (Cond.mk (fun h => ?_) fun h => ?_)
    · simp only [decide_eq_true_eq, eL] at h
      have ni : Int.toNat i = k := by omega
      have hk' : k < l.length := by omega
      have em : Option.getD (List.get?Internal l k) 0 = atI l k := rfl
      have hm : atI l k ∈ l := by
        unfold atI
        rw [List.getD_eq_getElem?_getD, List.getElem?_eq_getElem hk']
        exact List.getElem_mem hk'
      have ho := List.all_eq_true.1 hl _ hm
      have la : a.length ≤ 10 * k := by
        rw [h3]
        unfold preI
        have := intsF_len (l.take k)
        rw [List.length_take] at this
        omega
      have lp : (putF (atI l k)).length ≤ 10 := by
        have := intsF_len [atI l k]
        simpa [intsF] using this
      rw [ni, em]
      refine Asks.mk (by rw [decide_eq_true (show (0 : Int) ≤ i by omega), decide_eq_true (show i < Int.ofNat l.length by omega)]; rfl) (Asks.mk ho (Asks.mk (decide_eq_true (by omega)) (Asks.mk (inR_small (by omega) (by omega)) ⟨rfl, EqI.mk rfl (EqN.mk rfl ⟨RowsLe.same fun _ _ => atI_le _ _ _, EqB.mk rfl (EqB.mk rfl ⟨⟨k + 1, hk', by show i + 1 = _; omega, ?_⟩, by show ((l.length : Int) - (i + 1)).toNat < ((l.length : Int) - i).toNat; omega, rfl⟩)⟩)⟩)))
      show a ++ putF (atI l k) = _
      rw [h3, preI_succ hk']
    · simp only [decide_eq_false_iff_not, eL] at h
      have : k = l.length := by omega
      have : a = intsF l := by rw [h3, this]; unfold preI; rw [List.take_length]
      exact EqB.mk this trivial
theorem num_ok {l : List Int} (hl : intsB l = true) (h1 : l.length ≤ 1000) : CallGives PP II 85 [intsAV l] (AH.blank 12) (.ret (.tup [.str (intsF l), .bool true]) (AH.blank 12)) := by
  refine of_kb (ks := []) (T := [(3004, 12, s85 l (0, []), e85 l (intsF l))]) (fun σ => ⟨rfl, rfl, trivial⟩) ?_
  rw [num_vc]
  exact ⟨num_loop hl h1, rfl, EqN.mk rfl ⟨RowsLe.same fun _ _ => atI_le _ _ _, EqB.mk rfl (EqB.mk rfl rfl)⟩⟩
noncomputable def kRNum : Known PP II := Known.pure 85
  (fun X args kn => match args with
    | [.fslice n 1 f] => X.assert (isInts n f && intsB (intsOf n f) && Nat.ble n 1000) (kn (.tup [.str (intsF (intsOf n f)), .bool true]))
    | _ => X.fail)
  fun X sem hX args kn h => by
    split at h
    · rename_i n f
      obtain ⟨h1, h2⟩ := hX.assert _ _ h
      simp only [Bool.and_eq_true] at h1
      obtain ⟨⟨a1, a2⟩, a3⟩ := h1
      have hl : (intsOf n f).length = n := by simp [intsOf]
      exact ⟨_, h2, fun _ => rfl, fun _ => rfl, (num_ok a2 (by have := Nat.le_of_ble_eq_true a3; omega)).argsLe ⟨isInts_ok a1, trivial⟩⟩
    · exact absurd h hX.fail
theorem rhalf_loop {n : Nat} (hn : n ≤ 1000000) : LoopAt PP II false (loopOf II 88 2004) 12 (s88 n 1) (e88 n n) :=
  LoopAt.of (ι := Int) hII [] (lamT_ok PP II []) 1000 12 (fun k => ∃ a, k = ((2 ^ a : Nat) : Int) ∧ (2 ^ a = 1 ∨ 2 ^ a < n)) (s88 n) (fun _ => e88 n n) (fun k => (2 * n - k).toNat) (fun k => 2 * k) 1 rfl ⟨0, rfl, .inl rfl⟩ fun k hk => by
    obtain ⟨a, rfl, ha⟩ := hk
    have hp : 0 < 2 ^ a := Nat.two_pow_pos a
    refine (rhalf_step n _ n _).mpr (Asks.mk (inR_small (by omega) (by omega)) (Cond.mk (fun h => Asks.mk (inR_small (by omega) (by omega)) (EqI.mk (by omega) (EqI.mk rfl ?_))) fun h => EqI.mk ?_ (EqI.mk rfl trivial)))
    · simp only [decide_eq_true_eq] at h
      exact ⟨⟨a + 1, by rw [Nat.pow_succ]; omega, .inr (by rw [Nat.pow_succ]; omega)⟩, by omega, rfl⟩
    · simp only [decide_eq_false_iff_not] at h
      show ((2 ^ a : Nat) : Int) = ((halfN n : Nat) : Int)
      rw [halfN_eq ha (by omega)]
theorem rhalf_ok {n : Nat} (hn : n ≤ 1000000) : CallGives PP II 88 [.int .i64 n] (AH.blank 12) (.ret (.int .i64 (halfN n)) (AH.blank 12)) := by
  refine of_kb (ks := []) (T := [(2004, 12, s88 n 1, e88 n n)]) (fun σ => ⟨rfl, rfl⟩) ?_
  rw [rhalf_vc]
  exact ⟨rhalf_loop hn, EqI.mk rfl rfl⟩
noncomputable def kRHalf : Known PP II := Known.pure 88
  (fun X args kn => match args with
    | [.int .i64 n] => X.assert (decide (0 ≤ n) && decide (n ≤ 1000000)) (kn (.int .i64 (Int.ofNat (halfN (Int.toNat n)))))
    | _ => X.fail)
  fun X sem hX args kn h => by
    split at h
    · rename_i n
      obtain ⟨h1, h2⟩ := hX.assert _ _ h
      simp only [Bool.and_eq_true, decide_eq_true_eq] at h1
      have := rhalf_ok (n := Int.toNat n) (by omega)
      rw [Int.toNat_of_nonneg h1.1] at this
      exact ⟨_, h2, fun _ => rfl, fun _ => rfl, this⟩
    · exact absurd h hX.fail
theorem coverAV_le (σ : Nat → Nat) (lo hi : Nat → Int) : AVs.le σ (coverAV lo hi) (coverAV lo hi) :=
  ⟨⟨rfl, rfl⟩, ⟨rfl, rfl⟩, ⟨rfl, rfl⟩, ⟨rfl, rfl⟩, ⟨rfl, rfl⟩, ⟨rfl, rfl⟩, ⟨rfl, rfl⟩, ⟨rfl, rfl⟩, ⟨rfl, rfl⟩, ⟨rfl, rfl⟩, ⟨rfl, rfl⟩, ⟨rfl, rfl⟩, ⟨rfl, rfl⟩, ⟨rfl, rfl⟩, ⟨rfl, rfl⟩, ⟨rfl, rfl⟩, trivial⟩
theorem both_ok (lo hi lo' hi' : Nat → Int) : CallGives PP II 89 [.agg (coverAV lo hi), .agg (coverAV lo' hi')] (AH.blank 12) (.ret (.agg (coverAV (fun j => minI (lo j) (lo' j)) fun j => maxI (hi j) (hi' j))) (AH.blank 12)) := by
  refine of_kb (ks := []) (T := []) (fun σ => coverAV_le σ _ _) ?_
  rw [both_vc]
  exact Asks.mk rfl (Asks.mk rfl (Asks.mk rfl (Asks.mk rfl (Asks.mk rfl (Asks.mk rfl (Asks.mk rfl (Asks.mk rfl rfl)))))))
def isCover (cs : List AV) : Bool := match cs with
  | [.int .i64 _, .int .i64 _, .int .i64 _, .int .i64 _, .int .i64 _, .int .i64 _, .int .i64 _, .int .i64 _, .int .i64 _, .int .i64 _, .int .i64 _, .int .i64 _, .int .i64 _, .int .i64 _, .int .i64 _, .int .i64 _] => true
  | _ => false
def loC (cs : List AV) (j : Nat) : Int := pickI cs j
def hiC (cs : List AV) (j : Nat) : Int := pickI cs (8 + j)
theorem isCover_ok {cs : List AV} (h : isCover cs = true) : cs = coverAV (loC cs) (hiC cs) := by
  unfold isCover at h
  split at h
  · rfl
  · cases h
noncomputable def kRBoth : Known PP II := Known.pure 89
  (fun X args kn => match args with
    | [.agg a, .agg b] => X.assert (isCover a && isCover b) (kn (.agg (coverAV (fun j => minI (loC a j) (loC b j)) fun j => maxI (hiC a j) (hiC b j))))
    | _ => X.fail)
  fun X sem hX args kn h => by
    split at h
    · rename_i a b
      obtain ⟨h1, h2⟩ := hX.assert _ _ h
      simp only [Bool.and_eq_true] at h1
      refine ⟨_, h2, fun _ => rfl, fun _ => ?_, ?_⟩
      · rw [isCover_ok h1.1, isCover_ok h1.2]; rfl
      · have := both_ok (loC a) (hiC a) (loC b) (hiC b)
        rw [← isCover_ok h1.1, ← isCover_ok h1.2] at this
        exact this
    · exact absurd h hX.fail
theorem of_ok (x : Fact) : CallGives PP II 15 [.agg (factAV x)] (AH.blank 12) (.ret (.agg (coverAV (loI x) (hiI x))) (AH.blank 12)) := by
  refine of_kb (ks := []) (T := []) (fun σ => coverAV_le σ _ _) ?_
  rw [of_vc]
  rfl
noncomputable def kROf : Known PP II := Known.pure 15
  (fun X args kn => match args with
    | [.agg cs] => match toFact cs with
      | some x => kn (.agg (coverAV (loI x) (hiI x)))
      | none => X.fail
    | _ => X.fail)
  fun X sem hX args kn h => by
    split at h
    · split at h
      · rename_i cs x hx
        obtain rfl := toFact_ok hx
        exact ⟨_, h, fun _ => rfl, fun _ => rfl, of_ok x⟩
      · exact absurd h hX.fail
    · exact absurd h hX.fail
end Go.Sx
end
section
set_option maxRecDepth 1000000
namespace Go.Sx
open Go
theorem cov_vc (lo hi : Nat → Int) (Q : AV → Prop) : (kb [kRNum] [] 94 [.agg (coverAV lo hi)] Q) = (Asks (inR IntKind.i64 (1 : Int)) (Asks (inR IntKind.i64 (2 : Int)) (Asks (inR IntKind.i64 (3 : Int)) (Asks (inR IntKind.i64 (4 : Int)) (Asks (inR IntKind.i64 (5 : Int)) (Asks (inR IntKind.i64 (6 : Int)) (Asks (inR IntKind.i64 (7 : Int)) (Asks (inR IntKind.i64 (8 : Int)) (Asks (intsB [lo (0 : Nat), hi (0 : Nat), lo (1 : Nat), hi (1 : Nat), lo (2 : Nat), hi (2 : Nat), lo (3 : Nat), hi (3 : Nat), lo (4 : Nat), hi (4 : Nat), lo (5 : Nat), hi (5 : Nat), lo (6 : Nat), hi (6 : Nat), lo (7 : Nat), hi (7 : Nat)] && true) (Q (AV.tup [AV.str (intsF [lo (0 : Nat), hi (0 : Nat), lo (1 : Nat), hi (1 : Nat), lo (2 : Nat), hi (2 : Nat), lo (3 : Nat), hi (3 : Nat), lo (4 : Nat), hi (4 : Nat), lo (5 : Nat), hi (5 : Nat), lo (6 : Nat), hi (6 : Nat), lo (7 : Nat), hi (7 : Nat)]), AV.bool true]))))))))))) := by
 kernel_rfl
theorem enc_vc (x : Fact) (Q : AV → Prop) : (kb [kRNum] [] 87 [.agg (factAV x)] Q) = (Asks (intsB [Fact.t x, Fact.s x, Fact.v x, Fact.w x, Fact.o x, Fact.p x, Fact.d x, Fact.l x, Fact.h x, Fact.b x] && true) (Q (AV.str (intsF [Fact.t x, Fact.s x, Fact.v x, Fact.w x, Fact.o x, Fact.p x, Fact.d x, Fact.l x, Fact.h x, Fact.b x])))) := by kernel_rfl
theorem top_vc (n : Int) (s : List UInt8) (Q : AV → Prop) : (kb [kRNum] [] 44 [.int .i64 n, .str s] Q) = (Asks (intsB [n] && true) (Asks (decide (1 + List.length (intsF [n]) ≤ 9223372036854775807)) (Asks (decide (List.length (sapp [{ toBitVec := { toFin := ⟨7, Nat.mod_lt 7 (BitVec.ofNat._proof_1 8)⟩ } }] (intsF [n])) + List.length s ≤ 9223372036854775807)) (Q (AV.str (sapp (sapp [{ toBitVec := { toFin := ⟨7, Nat.mod_lt 7 (BitVec.ofNat._proof_1 8)⟩ } }] (intsF [n])) s)))))) := by kernel_rfl
end Go.Sx
end
section
set_option maxRecDepth 1000000
namespace Go.Sx
open Go
def covL (lo hi : Nat → Int) : List Int := [lo 0, hi 0, lo 1, hi 1, lo 2, hi 2, lo 3, hi 3, lo 4, hi 4, lo 5, hi 5, lo 6, hi 6, lo 7, hi 7]
def covOk (lo hi : Nat → Int) : Bool := intsB (covL lo hi)
theorem cov_ok {lo hi : Nat → Int} (h : covOk lo hi = true) : CallGives PP II 94 [.agg (coverAV lo hi)] (AH.blank 12) (.ret (.tup [.str (intsF (covL lo hi)), .bool true]) (AH.blank 12)) := by
  refine of_kb (ks := [kRNum]) (T := []) (fun σ => ⟨rfl, rfl, trivial⟩) ?_
  rw [cov_vc]
  exact Asks.mk rfl (Asks.mk rfl (Asks.mk rfl (Asks.mk rfl (Asks.mk rfl (Asks.mk rfl (Asks.mk rfl (Asks.mk rfl (Asks.mk ((Bool.and_true _).trans h) rfl))))))))
def covInts (cs : List AV) : Option (List Int) := match cs with
  | [.int .i64 a0 , .int .i64 a1 , .int .i64 a2 , .int .i64 a3 , .int .i64 a4 , .int .i64 a5 , .int .i64 a6 , .int .i64 a7 , .int .i64 b0 , .int .i64 b1 , .int .i64 b2 , .int .i64 b3 , .int .i64 b4 , .int .i64 b5 , .int .i64 b6 , .int .i64 b7] => some [a0, b0, a1, b1, a2, b2, a3, b3, a4, b4, a5, b5, a6, b6, a7, b7]
  | _ => none
theorem covInts_ok {cs : List AV} {l : List Int} (h : covInts cs = some l) : ∃ lo hi, cs = coverAV lo hi ∧ l = covL lo hi := by
  refine ⟨loC cs, hiC cs, ?_⟩
  unfold covInts at h
  split at h
  · cases h
    exact ⟨rfl, rfl⟩
  · cases h
noncomputable def kRCov : Known PP II := Known.pure 94
  (fun X args kn => match args with
    | [.agg cs] => match covInts cs with
      | some l => X.assert (intsB l) (kn (.tup [.str (intsF l), .bool true]))
      | none => X.fail
    | _ => X.fail)
  fun X sem hX args kn h => by
    split at h
    · split at h
      · rename_i cs l hl
        obtain ⟨lo, hi, rfl, rfl⟩ := covInts_ok hl
        obtain ⟨h2, k2⟩ := hX.assert _ _ h
        exact ⟨_, k2, fun _ => rfl, fun _ => rfl, cov_ok h2⟩
      · exact absurd h hX.fail
    · exact absurd h hX.fail
theorem factOk_ints {x : Fact} (h : factOk x = true) : intsB (factInts x) = true := by
  simp only [factOk, okI, Bool.and_eq_true, decide_eq_true_eq] at h
  refine List.all_eq_true.2 fun n hn => ?_
  simp only [factInts, List.mem_cons, List.not_mem_nil, or_false] at hn
  simp only [Bool.and_eq_true, decide_eq_true_eq]
  rcases hn with rfl | rfl | rfl | rfl | rfl | rfl | rfl | rfl | rfl | rfl <;> omega
theorem enc_ok {x : Fact} (h : factOk x = true) : CallGives PP II 87 [.agg (factAV x)] (AH.blank 12) (.ret (.str (intsF (factInts x))) (AH.blank 12)) := by
  refine of_kb (ks := [kRNum]) (T := []) (fun σ => rfl) ?_
  rw [enc_vc]
  exact Asks.mk ((Bool.and_true _).trans (factOk_ints h)) rfl
noncomputable def kREnc : Known PP II := Known.pure 87
  (fun X args kn => match args with
    | [.agg cs] => match toFact cs with
      | some x => X.assert (factOk x) (kn (.str (intsF (factInts x))))
      | none => X.fail
    | _ => X.fail)
  fun X sem hX args kn h => by
    split at h
    · split at h
      · rename_i cs x hx
        obtain rfl := toFact_ok hx
        obtain ⟨h1, k1⟩ := hX.assert _ _ h
        exact ⟨_, k1, fun _ => rfl, fun _ => rfl, enc_ok h1⟩
      · exact absurd h hX.fail
    · exact absurd h hX.fail
def topS (n : Int) (s : List UInt8) : List UInt8 := sapp (sapp [7] (intsF [n])) s
theorem top_ok {n : Int} {s : List UInt8} (h : okI n = true) (hs : s.length ≤ 1000) : CallGives PP II 44 [.int .i64 n, .str s] (AH.blank 12) (.ret (.str (topS n s)) (AH.blank 12)) := by
  refine of_kb (ks := [kRNum]) (T := []) (fun σ => rfl) ?_
  rw [top_vc]
  have hl := intsF_len [n]
  have e : intsB [n] = true := by show (okI n && true) = true; rw [h]; rfl
  have e1 : (intsF [n]).length ≤ 10 := by simpa using hl
  refine Asks.mk ((Bool.and_true _).trans e) (Asks.mk (decide_eq_true (by omega)) (Asks.mk (decide_eq_true ?_) rfl))
  show (([7] : List UInt8) ++ intsF [n]).length + _ ≤ _
  rw [List.length_append, List.length_singleton]; omega
noncomputable def kRTop : Known PP II := Known.pure 44
  (fun X args kn => match args with
    | [.int .i64 n, .str s] => X.assert (okI n && Nat.ble s.length 1000) (kn (.str (topS n s)))
    | _ => X.fail)
  fun X sem hX args kn h => by
    split at h
    · obtain ⟨h1, k1⟩ := hX.assert _ _ h
      simp only [Bool.and_eq_true] at h1
      exact ⟨_, k1, fun _ => rfl, fun _ => rfl, top_ok h1.1 (Nat.le_of_ble_eq_true h1.2)⟩
    · exact absurd h hX.fail
theorem hsh_vc (x : Node) (Q : AV → Prop) : (kb [kRCov] [] 86 [.agg (nodeAV x)] Q) = (let zz1 := [x.lo 0, x.hi 0, x.lo 1, x.hi 1, x.lo 2, x.hi 2, x.lo 3, x.hi 3, x.lo 4, x.hi 4, x.lo 5, x.hi 5, x.lo 6, x.hi 6, x.lo 7, x.hi 7]; let zz2 := (sapp [{ toBitVec := { toFin := ⟨6, Nat.mod_lt 6 (BitVec.ofNat._proof_1 8)⟩ } }] (intsF zz1)); (Asks (intsB zz1) (Cond (List.beq x.r []) (Asks (decide (1 + List.length (intsF zz1) ≤ 9223372036854775807)) (Asks (decide (List.length (sapp [{ toBitVec := { toFin := ⟨5, Nat.mod_lt 5 (BitVec.ofNat._proof_1 8)⟩ } }] (intsF zz1)) + List.length x.l ≤ 9223372036854775807)) (Q (AV.tup [AV.str (sapp (sapp [{ toBitVec := { toFin := ⟨5, Nat.mod_lt 5 (BitVec.ofNat._proof_1 8)⟩ } }] (intsF zz1)) x.l), AV.bool true])))) (Asks (decide (1 + List.length (intsF zz1) ≤ 9223372036854775807)) (Asks (decide (List.length zz2 + List.length x.l ≤ 9223372036854775807)) (Asks (decide
 (List.length (sapp zz2 x.l) + List.length x.r ≤ 9223372036854775807)) (Q (AV.tup [AV.str (sapp (sapp zz2 x.l) x.r), AV.bool true])))))))) := by kernel_rfl
theorem rdig_vc (x : Node) (Q : AV → Prop) : (kb [kRCov, kRSum] [] 46 [.agg (nodeAV x)] Q) = (let zz1 := [x.lo 0, x.hi 0, x.lo 1, x.hi 1, x.lo 2, x.hi 2, x.lo 3, x.hi 3, x.lo 4, x.hi 4, x.lo 5, x.hi 5, x.lo 6, x.hi 6, x.lo 7, x.hi 7]; let zz2 := (sapp [{ toBitVec := { toFin := ⟨6, Nat.mod_lt 6 (BitVec.ofNat._proof_1 8)⟩ } }] (intsF zz1)); let zz3 := (sapp [{ toBitVec := { toFin := ⟨5, Nat.mod_lt 5 (BitVec.ofNat._proof_1 8)⟩ } }] (intsF zz1)); (Asks (intsB zz1) (Cond (List.beq x.r []) (Asks (decide (1 + List.length (intsF zz1) ≤ 9223372036854775807)) (Asks (decide (List.length zz3 + List.length x.l ≤ 9223372036854775807)) (Asks (decide (List.length (sapp zz3 x.l) ≤ 900000)) (Q (AV.str (sumF (sapp zz3 x.l))))))) (Asks (decide (1 + List.length (intsF zz1) ≤ 9223372036854775807)) (Asks (decide (List.length zz2 + List.length x.l ≤ 9223372036854775807)) (Asks (decide (List.length (sapp zz2 x.l)
 + List.length x.r ≤ 9223372036854775807)) (Asks (decide (List.length (sapp (sapp zz2 x.l) x.r) ≤ 900000)) (Q (AV.str (sumF (sapp (sapp zz2 x.l) x.r))))))))))) := by kernel_rfl
def hashS (x : Node) : List UInt8 := bif List.beq x.r [] then sapp (sapp [5] (intsF (covL x.lo x.hi))) x.l else sapp (sapp (sapp [6] (intsF (covL x.lo x.hi))) x.l) x.r
theorem sapp_eq (a b : List UInt8) : sapp a b = a ++ b := rfl
theorem bounds_eq (x : Node) (p : UInt8) : boundsB x p = sapp [p] (intsF (covL x.lo x.hi)) := by
  simp only [boundsB, boundB, intsF, covL, sapp_eq, List.flatMap_cons, List.flatMap_nil, List.append_nil, List.nil_append, List.append_assoc]
theorem digF_hash (x : Node) : digF x = sumF (hashS x) := by
  unfold digF hashS
  rw [bounds_eq]
  cases h : List.beq x.r [] with
  | true =>
    have : x.r = [] := by
      cases hr : x.r with
      | nil => rfl
      | cons a l => rw [hr] at h; cases h
    rw [this, cond_true, cond_true]
    show sumF (_ ++ []) = _
    rw [List.append_nil]
  | false => rfl
theorem node_cov {x : Node} (h : nodeOk x = true) : intsB (covL x.lo x.hi) = true ∧ x.l.length ≤ 1000 ∧ x.r.length ≤ 1000 := by
  simp only [nodeOk, Bool.and_eq_true] at h
  obtain ⟨⟨⟨⟨⟨⟨⟨⟨⟨⟨⟨⟨⟨⟨⟨⟨⟨a0, a1⟩, a2⟩, a3⟩, a4⟩, a5⟩, a6⟩, a7⟩, c0⟩, c1⟩, c2⟩, c3⟩, c4⟩, c5⟩, c6⟩, c7⟩, d0⟩, d1⟩ := h
  refine ⟨?_, Nat.le_of_ble_eq_true d0, Nat.le_of_ble_eq_true d1⟩
  refine List.all_eq_true.2 fun n hn => ?_
  simp only [covL, List.mem_cons, List.not_mem_nil, or_false] at hn
  rcases hn with rfl | rfl | rfl | rfl | rfl | rfl | rfl | rfl | rfl | rfl | rfl | rfl | rfl | rfl | rfl | rfl <;> assumption
theorem covF_len (x : Node) : (intsF (covL x.lo x.hi)).length ≤ 160 := by
  have := intsF_len (covL x.lo x.hi)
  simpa [covL] using this
theorem hsh_ok {x : Node} (h : nodeOk x = true) : CallGives PP II 86 [.agg (nodeAV x)] (AH.blank 12) (.ret (.tup [.str (hashS x), .bool true]) (AH.blank 12)) := by
  obtain ⟨h1, h2, h3⟩ := node_cov h
  have hl := covF_len x
  refine of_kb (ks := [kRCov]) (T := []) (fun σ => ⟨rfl, rfl, trivial⟩) ?_
  rw [hsh_vc]
  have q1 : (sapp [5] (intsF (covL x.lo x.hi))).length = 1 + (intsF (covL x.lo x.hi)).length := sapp_len _ _
  have q2 : (sapp [6] (intsF (covL x.lo x.hi))).length = 1 + (intsF (covL x.lo x.hi)).length := sapp_len _ _
  have q3 := sapp_len (sapp [6] (intsF (covL x.lo x.hi))) x.l
  refine Asks.mk h1 (Cond.mk (fun c => Asks.mk (decide_eq_true ?_) (Asks.mk (decide_eq_true ?_) ?_)) fun c => Asks.mk (decide_eq_true ?_) (Asks.mk (decide_eq_true ?_) (Asks.mk (decide_eq_true ?_) ?_)))
  · show 1 + (intsF (covL x.lo x.hi)).length ≤ _; omega
  · show (sapp [5] (intsF (covL x.lo x.hi))).length + x.l.length ≤ _; omega
  · unfold hashS; rw [c]; rfl
  · show 1 + (intsF (covL x.lo x.hi)).length ≤ _; omega
  · show (sapp [6] (intsF (covL x.lo x.hi))).length + x.l.length ≤ _; omega
  · show (sapp (sapp [6] (intsF (covL x.lo x.hi))) x.l).length + x.r.length ≤ _; omega
  · unfold hashS; rw [c]; rfl
theorem rdig_ok {x : Node} (h : nodeOk x = true) : CallGives PP II 46 [.agg (nodeAV x)] (AH.blank 12) (.ret (.str (digF x)) (AH.blank 12)) := by
  obtain ⟨h1, h2, h3⟩ := node_cov h
  have hl := covF_len x
  rw [digF_hash]
  refine of_kb (ks := [kRCov, kRSum]) (T := []) (fun σ => rfl) ?_
  rw [rdig_vc]
  have q1 : (sapp [5] (intsF (covL x.lo x.hi))).length = 1 + (intsF (covL x.lo x.hi)).length := sapp_len _ _
  have q2 : (sapp [6] (intsF (covL x.lo x.hi))).length = 1 + (intsF (covL x.lo x.hi)).length := sapp_len _ _
  have q3 := sapp_len (sapp [6] (intsF (covL x.lo x.hi))) x.l
  have q4 := sapp_len (sapp [5] (intsF (covL x.lo x.hi))) x.l
  have q5 := sapp_len (sapp (sapp [6] (intsF (covL x.lo x.hi))) x.l) x.r
  refine Asks.mk h1 (Cond.mk (fun c => Asks.mk (decide_eq_true ?_) (Asks.mk (decide_eq_true ?_) (Asks.mk (decide_eq_true ?_) ?_))) fun c => Asks.mk (decide_eq_true ?_) (Asks.mk (decide_eq_true ?_) (Asks.mk (decide_eq_true ?_) (Asks.mk (decide_eq_true ?_) ?_))))
  · show 1 + (intsF (covL x.lo x.hi)).length ≤ _; omega
  · show (sapp [5] (intsF (covL x.lo x.hi))).length + x.l.length ≤ _; omega
  · show (sapp (sapp [5] (intsF (covL x.lo x.hi))) x.l).length ≤ _; omega
  · unfold hashS; rw [c]; rfl
  · show 1 + (intsF (covL x.lo x.hi)).length ≤ _; omega
  · show (sapp [6] (intsF (covL x.lo x.hi))).length + x.l.length ≤ _; omega
  · show (sapp (sapp [6] (intsF (covL x.lo x.hi))) x.l).length + x.r.length ≤ _; omega
  · show (sapp (sapp (sapp [6] (intsF (covL x.lo x.hi))) x.l) x.r).length ≤ _; omega
  · unfold hashS; rw [c]; rfl
noncomputable def kRHash : Known PP II := Known.pure 86
  (fun X args kn => match args with
    | [.agg cs] => match toNode cs with
      | some x => X.assert (nodeOk x) (kn (.tup [.str (hashS x), .bool true]))
      | none => X.fail
    | _ => X.fail)
  fun X sem hX args kn h => by
    split at h
    · rename_i cs
      split at h
      · rename_i x hx
        obtain ⟨h1, h2⟩ := hX.assert _ _ h
        rw [toNode_ok hx]
        exact ⟨_, h2, fun _ => rfl, fun _ => rfl, hsh_ok h1⟩
      · exact absurd h hX.fail
    · exact absurd h hX.fail
noncomputable def kRDig : Known PP II := Known.pure 46
  (fun X args kn => match args with
    | [.agg cs] => match toNode cs with
      | some x => X.assert (nodeOk x) (kn (.str (digF x)))
      | none => X.fail
    | _ => X.fail)
  fun X sem hX args kn h => by
    split at h
    · rename_i cs
      split at h
      · rename_i x hx
        obtain ⟨h1, h2⟩ := hX.assert _ _ h
        rw [toNode_ok hx]
        exact ⟨_, h2, fun _ => rfl, fun _ => rfl, rdig_ok h1⟩
      · exact absurd h hX.fail
    · exact absurd h hX.fail
end Go.Sx
end
section
set_option maxRecDepth 1000000
namespace Go.Sx
open Go
inductive Tree where
  | leaf (x : Fact)
  | node (l r : Tree)
def topF : Tree → Node
  | .leaf x => leafF x
  | .node l r => joinF (topF l) (topF r)
def zeroFact : Fact := ⟨0, 0, 0, 0, 0, 0, 0, 0, 0, 0⟩
def factF : Tree → Fact
  | .leaf x => x
  | .node _ _ => zeroFact
def cellsOf (n : Node) (x : Fact) (k : AV) : List AV := [.int .i64 (n.lo 0), .int .i64 (n.lo 1), .int .i64 (n.lo 2), .int .i64 (n.lo 3), .int .i64 (n.lo 4), .int .i64 (n.lo 5), .int .i64 (n.lo 6), .int .i64 (n.lo 7), .int .i64 (n.hi 0), .int .i64 (n.hi 1), .int .i64 (n.hi 2), .int .i64 (n.hi 3), .int .i64 (n.hi 4), .int .i64 (n.hi 5), .int .i64 (n.hi 6), .int .i64 (n.hi 7), .str n.l, .str n.r,
  .int .i64 x.t, .int .i64 x.s, .int .i64 x.v, .int .i64 x.w, .int .i64 x.o, .int .i64 x.p, .int .i64 x.d, .int .i64 x.l, .int .i64 x.h, .int .i64 x.b, k]
def pairRow (p q : AV) (i : Nat) : List AV := List.take 1 (List.drop (0 + i * 1) [p, q])
def kidsF : Tree → AV
  | .leaf _ => .nilSlice
  | .node l r => .fslice 2 1 (pairRow (.fptr (cellsOf (topF l) (factF l) (kidsF l)) 0) (.fptr (cellsOf (topF r) (factF r) (kidsF r)) 0))
def treeAV (t : Tree) : AV := .fptr (cellsOf (topF t) (factF t) (kidsF t)) 0
def growT : Nat → Nat → (Nat → Fact) → Tree
  | 0, _, F => .leaf (F 0)
  | d + 1, n, F => match Nat.ble n 1 with
    | true => .leaf (F 0)
    | false => .node (growT d (halfN n) F) (growT d (n - halfN n) fun i => F (halfN n + i))
def factsOk (n : Nat) (F : Nat → Fact) : Bool := (List.range n).all fun i => factOk (F i)
def growOk (d n : Nat) : Bool := Nat.ble 1 n && Nat.ble (2 * n) (2 ^ d)
def Grows (d : Nat) : Prop := ∀ n F, growOk d n = true → factsOk n F = true → CallGives PP II 35 [factsAV n F] HB (.ret (treeAV (growT d n F)) HB)
noncomputable def kGrowB (d : Nat) (ih : Grows d) : Known PP II := Known.onHB 35
  (fun X args kn => match args with
    | [.fslice n 10 f] => X.assert (isFacts n f) (X.assert (growOk d n) (X.assert (factsOk n (factAt f)) (kn (treeAV (growT d n (factAt f))))))
    | _ => X.fail)
  fun X sem hX args kn h => by
    split at h
    · rename_i n f
      obtain ⟨e1, k1⟩ := hX.assert _ _ h
      obtain ⟨e2, k2⟩ := hX.assert _ _ k1
      obtain ⟨e3, k3⟩ := hX.assert _ _ k2
      exact ⟨_, k3, fun _ => rfl, fun _ => rfl, (ih n (factAt f) e2 e3).argsLe ⟨isFacts_ok e1, trivial⟩⟩
    · exact absurd h hX.fail
theorem grow_vc (d n : Nat) (F : Nat → Fact) (ih : Grows d) (Q : AV → Prop) : (kh [kLeaf, kHalf, kGrowB d ih, kJoin] [] 35 [factsAV n F] Q) = (let zz1 := (growT d (Int.toNat (Int.ofNat n - Int.ofNat (halfN (Int.toNat (Int.ofNat n))))) (factAt fun i => factAV (F (Int.toNat (Int.ofNat (halfN (Int.toNat (Int.ofNat n)))) + i)))); let zz2 := (growT d (Int.toNat (Int.ofNat (halfN (Int.toNat (Int.ofNat n))) - 0)) (factAt fun i => factAV (F (0 + i)))); let zz3 := (decide (0 ≤ Int.ofNat (halfN (Int.toNat (Int.ofNat n)))) && decide (Int.ofNat (halfN (Int.toNat (Int.ofNat n))) ≤ Int.ofNat n) && decide (Int.ofNat n ≤ Int.ofNat n)); (Cond (decide (Int.ofNat n = 1)) (Asks (decide (0 < Int.ofNat n)) (Asks (factOk (F 0)) (Asks (decide (0 < Int.ofNat n)) (Asks (decide ((F 0).t = (F 0).t) && (decide ((F 0).s = (F 0).s) && (decide ((F 0).v = (F 0).v) && (decide ((F 0).w = (F 0).w) && (decide ((F 0).o = (F
 0).o) && (decide ((F 0).p = (F 0).p) && (decide ((F 0).d = (F 0).d) && (decide ((F 0).l = (F 0).l) && (decide ((F 0).h = (F 0).h) && (decide ((F 0).b = (F 0).b) && true)))))))))) (Q (AV.fptr [AV.int .i64 (Node.lo (leafF (F 0)) 0), AV.int .i64 (Node.lo (leafF (F 0)) 1), AV.int .i64 (Node.lo (leafF (F 0)) 2), AV.int .i64 (Node.lo (leafF (F 0)) 3), AV.int .i64 (Node.lo (leafF (F 0)) 4), AV.int .i64 (Node.lo (leafF (F 0)) 5), AV.int .i64 (Node.lo (leafF (F 0)) 6), AV.int .i64 (Node.lo (leafF (F 0)) 7), AV.int .i64 (Node.hi (leafF (F 0)) 0), AV.int .i64 (Node.hi (leafF (F 0)) 1), AV.int .i64 (Node.hi (leafF (F 0)) 2), AV.int .i64 (Node.hi (leafF (F 0)) 3), AV.int .i64 (Node.hi (leafF (F 0)) 4), AV.int .i64 (Node.hi (leafF (F 0)) 5), AV.int .i64 (Node.hi (leafF (F 0)) 6), AV.int .i64 (Node.hi (leafF (F 0)) 7), AV.str (Node.l (leafF (F 0))), AV.str (Node.r (leafF (F 0))), AV.int .i64 (F 0).t,
 AV.int .i64 (F 0).s, AV.int .i64 (F 0).v, AV.int .i64 (F 0).w, AV.int .i64 (F 0).o, AV.int .i64 (F 0).p, AV.int .i64 (F 0).d, AV.int .i64 (F 0).l, AV.int .i64 (F 0).h, AV.int .i64 (F 0).b, AV.nilSlice] 0)))))) (Asks (decide (0 ≤ Int.ofNat n) && decide (Int.ofNat n ≤ 1000000)) (Asks (decide (0 ≤ Int.ofNat (halfN (Int.toNat (Int.ofNat n)))) && decide (Int.ofNat (halfN (Int.toNat (Int.ofNat n))) ≤ Int.ofNat n)) (Asks (isFacts (Int.toNat (Int.ofNat (halfN (Int.toNat (Int.ofNat n))) - 0)) fun i => factAV (F (0 + i))) (Asks (growOk d (Int.toNat (Int.ofNat (halfN (Int.toNat (Int.ofNat n))) - 0))) (Asks (factsOk (Int.toNat (Int.ofNat (halfN (Int.toNat (Int.ofNat n))) - 0)) (factAt fun i => factAV (F (0 + i)))) (Asks zz3 (Asks zz3 (Asks (decide (Int.toNat (Int.ofNat n - Int.ofNat (halfN (Int.toNat (Int.ofNat n)))) = Int.toNat (Int.ofNat n - Int.ofNat (halfN (Int.toNat (Int.ofNat n))))) && true &&
 List.all (List.range.loop (Int.toNat (Int.ofNat n - Int.ofNat (halfN (Int.toNat (Int.ofNat n))))) []) fun i => decide (Fact.t (F (Int.toNat (Int.ofNat (halfN (Int.toNat (Int.ofNat n)))) + i)) = Fact.t (F (Int.toNat (Int.ofNat (halfN (Int.toNat (Int.ofNat n)))) + i))) && (decide (Fact.s (F (Int.toNat (Int.ofNat (halfN (Int.toNat (Int.ofNat n)))) + i)) = Fact.s (F (Int.toNat (Int.ofNat (halfN (Int.toNat (Int.ofNat n)))) + i))) && (decide (Fact.v (F (Int.toNat (Int.ofNat (halfN (Int.toNat (Int.ofNat n)))) + i)) = Fact.v (F (Int.toNat (Int.ofNat (halfN (Int.toNat (Int.ofNat n)))) + i))) && (decide (Fact.w (F (Int.toNat (Int.ofNat (halfN (Int.toNat (Int.ofNat n)))) + i)) = Fact.w (F (Int.toNat (Int.ofNat (halfN (Int.toNat (Int.ofNat n)))) + i))) && (decide (Fact.o (F (Int.toNat (Int.ofNat (halfN (Int.toNat (Int.ofNat n)))) + i)) = Fact.o (F (Int.toNat (Int.ofNat (halfN (Int.toNat (Int.ofNat
 n)))) + i))) && (decide (Fact.p (F (Int.toNat (Int.ofNat (halfN (Int.toNat (Int.ofNat n)))) + i)) = Fact.p (F (Int.toNat (Int.ofNat (halfN (Int.toNat (Int.ofNat n)))) + i))) && (decide (Fact.d (F (Int.toNat (Int.ofNat (halfN (Int.toNat (Int.ofNat n)))) + i)) = Fact.d (F (Int.toNat (Int.ofNat (halfN (Int.toNat (Int.ofNat n)))) + i))) && (decide (Fact.l (F (Int.toNat (Int.ofNat (halfN (Int.toNat (Int.ofNat n)))) + i)) = Fact.l (F (Int.toNat (Int.ofNat (halfN (Int.toNat (Int.ofNat n)))) + i))) && (decide (Fact.h (F (Int.toNat (Int.ofNat (halfN (Int.toNat (Int.ofNat n)))) + i)) = Fact.h (F (Int.toNat (Int.ofNat (halfN (Int.toNat (Int.ofNat n)))) + i))) && (decide (Fact.b (F (Int.toNat (Int.ofNat (halfN (Int.toNat (Int.ofNat n)))) + i)) = Fact.b (F (Int.toNat (Int.ofNat (halfN (Int.toNat (Int.ofNat n)))) + i))) && true)))))))))) (Asks (isFacts (Int.toNat (Int.ofNat n - Int.ofNat (halfN
 (Int.toNat (Int.ofNat n))))) fun i => factAV (F (Int.toNat (Int.ofNat (halfN (Int.toNat (Int.ofNat n)))) + i))) (Asks (growOk d (Int.toNat (Int.ofNat n - Int.ofNat (halfN (Int.toNat (Int.ofNat n)))))) (Asks (factsOk (Int.toNat (Int.ofNat n - Int.ofNat (halfN (Int.toNat (Int.ofNat n))))) (factAt fun i => factAV (F (Int.toNat (Int.ofNat (halfN (Int.toNat (Int.ofNat n)))) + i)))) (Asks (nodeOk { lo := fun j => if h : j = 0 then Node.lo (topF zz2) 0 else if h : j = 1 then Node.lo (topF zz2) 1 else if h : j = 2 then Node.lo (topF zz2) 2 else if h : j = 3 then Node.lo (topF zz2) 3 else if h : j = 4 then Node.lo (topF zz2) 4 else if h : j = 5 then Node.lo (topF zz2) 5 else if h : j = 6 then Node.lo (topF zz2) 6 else if h : j = 7 then Node.lo (topF zz2) 7 else 0, hi := fun j => if h : j = 0 then Node.hi (topF zz2) 0 else if h : j = 1 then Node.hi (topF zz2) 1 else if h : j = 2 then Node.hi (topF zz2) 2 else if h : j = 3 then Node.hi (topF zz2) 3 else if h : j = 4 then Node.hi (topF zz2) 4 else if h : j = 5 then Node.hi (topF zz2) 5 else if h : j = 6 then Node.hi (topF zz2) 6 else if h : j = 7 then Node.hi (topF zz2) 7 else 0, l := Node.l (topF zz2), r := Node.r (topF zz2) }
 && nodeOk { lo := fun j => if h : j = 0 then Node.lo (topF zz1) 0 else if h : j = 1 then Node.lo (topF zz1) 1 else if h : j = 2 then Node.lo (topF zz1) 2 else if h : j = 3 then Node.lo (topF zz1) 3 else if h : j = 4 then Node.lo (topF zz1) 4 else if h : j = 5 then Node.lo (topF zz1) 5 else if h : j = 6 then Node.lo (topF zz1) 6 else if h : j = 7 then Node.lo (topF zz1) 7 else 0, hi := fun j => if h : j = 0 then Node.hi (topF zz1) 0 else if h : j = 1 then Node.hi (topF zz1) 1 else if h : j = 2 then Node.hi (topF zz1) 2 else if h : j = 3 then Node.hi (topF zz1) 3 else if h : j = 4 then Node.hi (topF zz1) 4 else if h : j = 5 then Node.hi (topF zz1) 5 else if h : j = 6 then Node.hi (topF zz1) 6 else if h : j = 7 then Node.hi (topF zz1) 7 else 0, l := Node.l (topF zz1), r := Node.r (topF zz1) }) (Q (AV.fptr [AV.int .i64 (minI (Node.lo (topF zz2) 0) (Node.lo (topF zz1) 0)), AV.int .i64 (minI
 (Node.lo (topF zz2) 1) (Node.lo (topF zz1) 1)), AV.int .i64 (minI (Node.lo (topF zz2) 2) (Node.lo (topF zz1) 2)), AV.int .i64 (minI (Node.lo (topF zz2) 3) (Node.lo (topF zz1) 3)), AV.int .i64 (minI (Node.lo (topF zz2) 4) (Node.lo (topF zz1) 4)), AV.int .i64 (minI (Node.lo (topF zz2) 5) (Node.lo (topF zz1) 5)), AV.int .i64 (minI (Node.lo (topF zz2) 6) (Node.lo (topF zz1) 6)), AV.int .i64 (minI (Node.lo (topF zz2) 7) (Node.lo (topF zz1) 7)), AV.int .i64 (maxI (Node.hi (topF zz2) 0) (Node.hi (topF zz1) 0)), AV.int .i64 (maxI (Node.hi (topF zz2) 1) (Node.hi (topF zz1) 1)), AV.int .i64 (maxI (Node.hi (topF zz2) 2) (Node.hi (topF zz1) 2)), AV.int .i64 (maxI (Node.hi (topF zz2) 3) (Node.hi (topF zz1) 3)), AV.int .i64 (maxI (Node.hi (topF zz2) 4) (Node.hi (topF zz1) 4)), AV.int .i64 (maxI (Node.hi (topF zz2) 5) (Node.hi (topF zz1) 5)), AV.int .i64 (maxI (Node.hi (topF zz2) 6) (Node.hi (topF zz1)
 6)), AV.int .i64 (maxI (Node.hi (topF zz2) 7) (Node.hi (topF zz1) 7)), AV.str (digF { lo := fun j => if h : j = 0 then Node.lo (topF zz2) 0 else if h : j = 1 then Node.lo (topF zz2) 1 else if h : j = 2 then Node.lo (topF zz2) 2 else if h : j = 3 then Node.lo (topF zz2) 3 else if h : j = 4 then Node.lo (topF zz2) 4 else if h : j = 5 then Node.lo (topF zz2) 5 else if h : j = 6 then Node.lo (topF zz2) 6 else if h : j = 7 then Node.lo (topF zz2) 7 else 0, hi := fun j => if h : j = 0 then Node.hi (topF zz2) 0 else if h : j = 1 then Node.hi (topF zz2) 1 else if h : j = 2 then Node.hi (topF zz2) 2 else if h : j = 3 then Node.hi (topF zz2) 3 else if h : j = 4 then Node.hi (topF zz2) 4 else if h : j = 5 then Node.hi (topF zz2) 5 else if h : j = 6 then Node.hi (topF zz2) 6 else if h : j = 7 then Node.hi (topF zz2) 7 else 0, l := Node.l (topF zz2), r := Node.r (topF zz2) }), AV.str (digF { lo := fun j => if h : j = 0 then Node.lo (topF zz1) 0 else if h : j = 1 then Node.lo (topF zz1) 1 else if h : j = 2 then Node.lo (topF zz1) 2 else if h : j = 3 then Node.lo (topF zz1) 3 else if h : j = 4 then Node.lo (topF zz1) 4 else if h : j = 5 then Node.lo (topF zz1) 5 else if h : j = 6 then Node.lo (topF zz1) 6 else if h : j = 7 then Node.lo (topF zz1) 7 else 0, hi := fun j => if h : j = 0 then Node.hi (topF zz1) 0 else if h : j = 1 then Node.hi (topF zz1) 1 else if h : j = 2 then Node.hi (topF zz1) 2 else if h : j = 3 then Node.hi (topF zz1) 3 else if h : j = 4 then Node.hi (topF zz1) 4 else if h : j = 5 then Node.hi (topF zz1) 5 else if h : j = 6 then Node.hi (topF zz1) 6 else if h : j = 7 then Node.hi (topF zz1) 7 else 0, l := Node.l (topF zz1), r := Node.r (topF zz1) }),
 AV.int .i64 0, AV.int .i64 0, AV.int .i64 0, AV.int .i64 0, AV.int .i64 0, AV.int .i64 0, AV.int .i64 0, AV.int .i64 0, AV.int .i64 0, AV.int .i64 0, AV.fslice 2 1 fun i => Nat.rec (motive := fun x => Nat.below (motive := fun x => List AV → List AV) x → List AV) (fun x => []) (fun n_1 n_ih => List.casesOn (motive := fun x => Nat.below (motive := fun x => List AV → List AV) (n_1 + 1) → List AV) (List.drop (0 + i * 1) [AV.fptr [AV.int .i64 (Node.lo (topF zz2) 0), AV.int .i64 (Node.lo (topF zz2) 1), AV.int .i64 (Node.lo (topF zz2) 2), AV.int .i64 (Node.lo (topF zz2) 3), AV.int .i64 (Node.lo (topF zz2) 4), AV.int .i64 (Node.lo (topF zz2) 5), AV.int .i64 (Node.lo (topF zz2) 6), AV.int .i64 (Node.lo (topF zz2) 7), AV.int .i64 (Node.hi (topF zz2) 0), AV.int .i64 (Node.hi (topF zz2) 1), AV.int .i64 (Node.hi (topF zz2) 2), AV.int .i64 (Node.hi (topF zz2) 3), AV.int .i64 (Node.hi (topF zz2) 4),
 AV.int .i64 (Node.hi (topF zz2) 5), AV.int .i64 (Node.hi (topF zz2) 6), AV.int .i64 (Node.hi (topF zz2) 7), AV.str (Node.l (topF zz2)), AV.str (Node.r (topF zz2)), AV.int .i64 (Fact.t (factF zz2)), AV.int .i64 (Fact.s (factF zz2)), AV.int .i64 (Fact.v (factF zz2)), AV.int .i64 (Fact.w (factF zz2)), AV.int .i64 (Fact.o (factF zz2)), AV.int .i64 (Fact.p (factF zz2)), AV.int .i64 (Fact.d (factF zz2)), AV.int .i64 (Fact.l (factF zz2)), AV.int .i64 (Fact.h (factF zz2)), AV.int .i64 (Fact.b (factF zz2)), kidsF zz2] 0, AV.fptr [AV.int .i64 (Node.lo (topF zz1) 0), AV.int .i64 (Node.lo (topF zz1) 1), AV.int .i64 (Node.lo (topF zz1) 2), AV.int .i64 (Node.lo (topF zz1) 3), AV.int .i64 (Node.lo (topF zz1) 4), AV.int .i64 (Node.lo (topF zz1) 5), AV.int .i64 (Node.lo (topF zz1) 6), AV.int .i64 (Node.lo (topF zz1) 7), AV.int .i64 (Node.hi (topF zz1) 0), AV.int .i64 (Node.hi (topF zz1) 1), AV.int .i64
 (Node.hi (topF zz1) 2), AV.int .i64 (Node.hi (topF zz1) 3), AV.int .i64 (Node.hi (topF zz1) 4), AV.int .i64 (Node.hi (topF zz1) 5), AV.int .i64 (Node.hi (topF zz1) 6), AV.int .i64 (Node.hi (topF zz1) 7), AV.str (Node.l (topF zz1)), AV.str (Node.r (topF zz1)), AV.int .i64 (Fact.t (factF zz1)), AV.int .i64 (Fact.s (factF zz1)), AV.int .i64 (Fact.v (factF zz1)), AV.int .i64 (Fact.w (factF zz1)), AV.int .i64 (Fact.o (factF zz1)), AV.int .i64 (Fact.p (factF zz1)), AV.int .i64 (Fact.d (factF zz1)), AV.int .i64 (Fact.l (factF zz1)), AV.int .i64 (Fact.h (factF zz1)), AV.int .i64 (Fact.b (factF zz1)), kidsF zz1] 0]) (fun x => []) fun head tail x => head :: x.1 tail) 1 ⟨fun x => [], PUnit.unit⟩] 0)))))))))))))))) := by kernel_rfl
end Go.Sx
end
