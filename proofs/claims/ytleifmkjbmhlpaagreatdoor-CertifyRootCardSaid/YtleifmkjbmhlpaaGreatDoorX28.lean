/- CertifyRoot is proved, part 28. -/
import Derived.Test.YtleifmkjbmhlpaaGreatDoorX27
import Derived.Test.YtleifmkjbmhlpaaGreatDoorX23
set_option linter.unusedVariables false
set_option linter.unusedSimpArgs false
set_option linter.unusedSectionVars false
section
set_option maxRecDepth 1000000
namespace Go.Sx
open Go
theorem CallGives.pureN {P : Program} {I : Info} {f : FuncId} {args : List AV} {a : AV} {H0 H : AH} {m : Nat} (h : CallGives P I f args H0 (.ret a H0)) (hn : H0.n = m) (hGm : I.G ≤ m) (hmn : m ≤ H.n) (hlow : ∀ i, m ≤ i → H0.get i = .dead)
    (hbase : ∀ i, i < m → H0.get i ≠ .dead → H.get i = H0.get i ∧ ∀ σ : Nat → Nat, (∀ j, j < m → σ j = j) → (H0.get i).ren σ = H0.get i) (hargs : ∀ σ, AVs.ren σ args = args) (ha : ∀ σ, a.ren σ = a) :
    CallGives P I f args H (.ret a H) := by
  intro c ρ w vs hG hv hr
  let σ : Nat → Nat := fun l => if l < m then l else H.n + (l - m)
  have σlt : ∀ i, i < m → σ i = i := fun i hi => by simp only [σ, if_pos hi]
  have hlive : ∀ i, H0.get i ≠ .dead → i < m := fun i hi => Nat.lt_of_not_le fun e => hi (hlow i e)
  have hb : ∀ l, H0.get l ≠ .dead → H.get (σ l) = (H0.get l).ren σ := fun l hl => by
    obtain ⟨e1, e2⟩ := hbase l (hlive l hl) hl
    rw [σlt l (hlive l hl), e2 σ σlt, e1]
  have hs : Sub I.G σ H0 H :=
    { lt := fun l hl => by rw [hn] at hl; rw [σlt l hl]; omega
      ge := fun l hl => by
        rw [hn] at hl ⊢
        have : ¬ l < m := Nat.not_lt.2 hl
        simp only [σ, if_neg this]
      same := hb
      inj := fun l l' h1 h2 e => by rw [σlt l (hlive l h1), σlt l' (hlive l' h2)] at e; exact e
      glob := fun g hg => ⟨by rw [hn]; omega, σlt g (by omega)⟩
      low := fun l hl => hlow l (by rw [hn] at hl; exact hl) }
  have ht : Sup σ H0 (CO.ret a H0).heap H H :=
    { n := by show H.n = H.n + (H0.n - H0.n); omega
      old := hb
      new := fun l hl => by
        rw [hn] at hl
        have : ¬ l < m := Nat.not_lt.2 hl
        show H.get (σ l) = (H0.get l).ren σ
        rw [hlow l hl]
        simp only [σ, if_neg this]
        rw [hr.low _ (by omega)]
        rfl
      rest := fun _ _ _ => rfl }
  have := h.lift hs ht
  rw [hargs] at this
  have e : (CO.ret a H0).into σ H = .ret a H := by
    show CO.ret (a.ren σ) H = _
    rw [ha]
  rw [e] at this
  exact this c ρ w vs hG hv hr
theorem Hs_get (i : Nat) : Hs.get i = if i = 13 then Hs.get 13 else if i = 3 then Hs.get 3 else if i = 2 then .cells constAVs .ro else if i = 1 then Hs.get 1 else if i = 0 then Hs.get 0 else .dead := by
  by_cases h1 : i = 13
  · rw [if_pos h1, h1]
  by_cases h3 : i = 3
  · rw [if_neg h1, if_pos h3, h3]
  by_cases h4 : i = 2
  · rw [if_neg h1, if_neg h3, if_pos h4, h4]; rfl
  by_cases h5 : i = 1
  · rw [if_neg h1, if_neg h3, if_neg h4, if_pos h5, h5]
  by_cases h6 : i = 0
  · rw [if_neg h1, if_neg h3, if_neg h4, if_neg h5, if_pos h6, h6]
  rw [if_neg h1, if_neg h3, if_neg h4, if_neg h5, if_neg h6]
  unfold Hs
  simp only [AH.get, Tr.ofList, Tr.get_set, Tr.get_e]
  simp [h1, h3, h4, h5, h6]
theorem Hs_live {P : Nat → ABlk → Prop} (h0 : P 0 (Hs.get 0)) (h1 : P 1 (Hs.get 1)) (h2 : P 2 (.cells constAVs .ro)) (h3 : P 3 (Hs.get 3)) (h13 : P 13 (Hs.get 13)) (hd : ∀ i, P i .dead) (i : Nat) : P i (Hs.get i) := by
  rw [Hs_get]
  split
  · rename_i h; rw [h]; exact h13
  split
  · rename_i h; rw [h]; exact h3
  split
  · rename_i h; rw [h]; exact h2
  split
  · rename_i h; rw [h]; exact h1
  split
  · rename_i h; rw [h]; exact h0
  exact hd i
open Classical in
theorem HsOk_ok {H : AH} (h : HsOk H = true) : 14 ≤ H.n ∧ ∀ i, Hs.get i ≠ .dead → H.get i = Hs.get i := by
  unfold HsOk hsIs at h
  simp only [Bool.and_eq_true, decide_eq_true_eq] at h
  obtain ⟨⟨h1, h2⟩, h3, h4, h5, h7⟩ := h
  refine ⟨Nat.le_of_ble_eq_true h1, fun i => ?_⟩
  exact Hs_live (P := fun i b => b ≠ .dead → H.get i = b) (fun _ => h3) (fun _ => h4) (fun _ => roInts_eq h2) (fun _ => h5) (fun _ => h7) (fun i e => absurd rfl e) i
theorem constAVs_ren (σ : Nat → Nat) : AVs.ren σ constAVs = constAVs := by
  have : ∀ l : List AV, (∀ a ∈ l, a.ren σ = a) → AVs.ren σ l = l := fun l hl => by
    induction l with
    | nil => rfl
    | cons a l ih => show a.ren σ :: AVs.ren σ l = _; rw [hl a (List.mem_cons_self ..), ih fun b hb => hl b (List.mem_cons_of_mem _ hb)]
  exact this _ fun a ha => by
    unfold constAVs at ha
    obtain ⟨x, _, rfl⟩ := List.mem_map.1 ha
    rfl
theorem ops_le (σ : Nat → Nat) (i : Nat) : AVs.le σ (opsRow i) (opsRow i) := by
  unfold opsRow
  split
  · exact ⟨rfl, trivial, trivial⟩
  · exact ⟨rfl, ⟨rfl, trivial, trivial⟩, trivial⟩
  · exact ⟨rfl, ⟨rfl, trivial, trivial⟩, trivial⟩
  · exact ⟨rfl, ⟨rfl, trivial, trivial⟩, trivial⟩
  · exact ⟨rfl, ⟨rfl, trivial, trivial⟩, trivial⟩
theorem sane_ok : CallGives PP II 9 [] Hs (.ret (.bool true) Hs) := by
  obtain ⟨o, h1, h2⟩ := kbody_ok hII (ks9 ++ [kTry ks9]) (lamT_ok PP II []) 1000 9 [] Hs (fun a H => Asks (HsOk H) (a = .bool true)) (fun _ _ => False) (by
    have := sane_run fun b a => Asks b (a = .bool true)
    rw [this]
    exact Asks.mk (by unfold hsIs; simp) rfl)
  cases o with
  | ret a H1 =>
    obtain ⟨k0, k1⟩ := Asks.and h1
    have k1 : a = .bool true := k1
    subst k1
    obtain ⟨k2, k3⟩ := HsOk_ok k0
    refine h2.le (ResLe.of [] (HeapLe.of rfl rfl rfl (by rfl) (Nat.ble_eq_true_of_le k2) (allN_iff.2 fun l hl => ?_)) rfl)
    have hl : l < 14 := hl
    have σe : ∀ j, j < 14 → sig Hs.n [] H1.n j = j := fun j hj => by
      unfold sig
      rw [show Nat.blt j Hs.n = true from (Nat.blt_eq ..).mpr hj]; rfl
    have hle : ∀ b : ABlk, (b ≠ .dead → H1.get l = b) → b.le (sig Hs.n [] H1.n) b → okBlk (sig Hs.n [] H1.n) H1.n l H1 b := fun b hb hr => by
      unfold okBlk
      split
      · trivial
      · rename_i hnd
        rw [σe l hl, if_pos (by omega), hb (fun e => hnd e)]
        exact hr
    have e13 := σe 13 (by omega)
    refine hle _ (k3 l) ?_
    exact Hs_live (P := fun _ b => b.le (sig Hs.n [] H1.n) b) ⟨⟨⟨rfl, rfl, fun i _ => ops_le _ i⟩, trivial⟩, trivial⟩ ⟨⟨rfl, rfl, trivial⟩, trivial⟩ ⟨constAVs_le _, trivial⟩ ⟨⟨e13.symm, trivial⟩, trivial⟩
      ⟨rfl, ⟨⟨rfl, rfl⟩, ⟨rfl, rfl⟩, ⟨rfl, rfl⟩, ⟨rfl, rfl⟩, ⟨rfl, rfl⟩, trivial⟩, ⟨⟨⟨rfl, trivial, trivial⟩, trivial⟩, ⟨⟨rfl, trivial, trivial⟩, trivial⟩, ⟨⟨rfl, trivial, trivial⟩, trivial⟩, ⟨⟨rfl, trivial, trivial⟩, trivial⟩, ⟨⟨rfl, trivial, trivial⟩, trivial⟩, trivial⟩⟩ (fun _ => trivial) l
  | pan a H1 => exact h1.elim
noncomputable def kSane : Known PP II where
  f := 9
  spec X args H kn _ := match args with
    | [] => X.assert (HsOk H) (kn (.bool true) H)
    | _ => X.fail
  ok X sem hX args H kn kp h := by
    split at h
    · obtain ⟨h0, h1⟩ := hX.assert _ _ h
      obtain ⟨k2, k3⟩ := HsOk_ok h0
      refine ⟨.ret (.bool true) H, h1, sane_ok.pureN (m := 14) rfl (by decide) k2 (fun i hi => ?_) (fun i hi hd => ⟨k3 i hd, fun σ hσ => ?_⟩) (fun _ => rfl) (fun _ => rfl)⟩
      · rw [Hs_get, if_neg (by omega), if_neg (by omega), if_neg (by omega), if_neg (by omega), if_neg (by omega)]
      · have e13 := hσ 13 (by omega)
        refine Hs_live (P := fun _ b => b.ren σ = b) rfl rfl ?_ ?_ rfl (fun _ => rfl) i
        · show ABlk.cells (AVs.ren σ constAVs) .ro = _
          rw [constAVs_ren]
        · show ABlk.cells [.map (some (σ 13))] .ro = _
          rw [e13]; rfl
    · exact absurd h hX.fail
end Go.Sx
end
section
set_option maxRecDepth 1000000
namespace Go.Sx
open Go
def intRow : Nat → List AV → Bool
  | 0, [] => true
  | w + 1, .int .i64 i :: cs => inR .i64 i && intRow w cs
  | _, _ => false
def intsRows (w n : Nat) (f : Nat → List AV) : Bool := (List.range n).all fun i => intRow w (f i)
def getI (cs : List AV) (k : Nat) : Int := match cs.getD k .any with | .int .i64 i => i | _ => 0
noncomputable abbrev kPick67 : Known PP II := kPick 67 (.inr rfl)
def fieldI (a : Int) : Int := match decide (1 + pickF a 11 > 8) with | true => 8 | false => 1 + pickF a 11
def qRow (X : Nat → Nat → Int) (j : Nat) : List AV := [.int .i64 (X j 0), .int .i64 (X j 1), .int .i64 (X j 2)]
def qAV (n : Nat) (X : Nat → Nat → Int) : AV := .fslice n 3 (qRow X)
def condI (X : Nat → Nat → Int) (j : Nat) (k : Nat) : Int := match k with | 0 => fieldI (X j 0) | 1 => 1 + pickF (X j 1) 4 | _ => pickF (X j 2) 40 - 1
noncomputable def s66 (n : Nat) (X : Nat → Nat → Int) (C : Nat → Nat → Int) (i : Int) (m : Nat) : St := { t := Tr.ofList [(0, qAV n X), (3, .own 12 m 3), (4, .int .i64 i)], nt := 45, H := { n := 13, t := Tr.ofList [(12, .rows m 3 (qRow C) (.ty 76))] }, df := [] }
noncomputable def e66 (n : Nat) (X : Nat → Nat → Int) (C : Nat → Nat → Int) (i : Int) (m : Nat) : GE := .one (.x 0 (s66 n X C i m))
theorem conds_step (n : Nat) (X C : Nat → Nat → Int) (i i' iN : Int) (m m' mN : Nat) (Q : Prop) : (kr (ι := Int × Nat) [kPick67] [] 66 3008 12 (fun p => s66 n X C p.1 p.2) (fun _ => e66 n X C iN mN) (fun _ => (i', m')) Q (i, m)) = (Cond (decide (i < Int.ofNat n)) (Cond (decide (i < 6)) (Asks (decide (0 ≤ i) && decide (i < Int.ofNat n)) (Asks (inR .i64 (X (Int.toNat i) 0) && true) (Asks (inR .i64 (1 + pickF (X (Int.toNat i) 0) 11)) (Cond (decide (1 + pickF (X (Int.toNat i) 0) 11 > 8)) (Asks (decide (0 ≤ i) && decide (i < Int.ofNat n)) (Asks (inR .i64 (X (Int.toNat i) 1) && true) (Asks (inR .i64 (1 + pickF (X (Int.toNat i) 1) 4)) (Asks (decide (0 ≤ i) && decide (i < Int.ofNat n)) (Asks (decide (X (Int.toNat i) 2 = X (Int.toNat i) 2)) (Asks (inR .i64 (X (Int.toNat i) 2) && true) (Asks (inR .i64 (pickF (X (Int.toNat i) 2) 40 - 1)) (Asks (decide (m ≤ m) && true && true && decide ((m + 1) * 24
 ≤ 140737488355328) && true) (Asks (inR .i64 (i + 1)) (EqN (m + 1) m' (RowsLe (m + 1) (fun i_1 => bif Nat.blt i_1 m then qRow C i_1 else List.take 3 (List.drop (0 + (i_1 - m) * 3) [AV.int .i64 8, AV.int .i64 (1 + pickF (X (Int.toNat i) 1) 4), AV.int .i64 (pickF (X (Int.toNat i) 2) 40 - 1)])) (qRow C) ∧ EqN (m + 1) m' (EqN n n (RowsLe n (qRow X) (qRow X) ∧ EqI (i + 1) i' Q))))))))))))) (Asks (decide (0 ≤ i) && decide (i < Int.ofNat n)) (Asks (inR .i64 (X (Int.toNat i) 1) && true) (Asks (inR .i64 (1 + pickF (X (Int.toNat i) 1) 4)) (Asks (decide (0 ≤ i) && decide (i < Int.ofNat n)) (Asks (decide (X (Int.toNat i) 2 = X (Int.toNat i) 2)) (Asks (inR .i64 (X (Int.toNat i) 2) && true) (Asks (inR .i64 (pickF (X (Int.toNat i) 2) 40 - 1)) (Asks (decide (m ≤ m) && true && true && decide ((m + 1) * 24 ≤ 140737488355328) && true) (Asks (inR .i64 (i + 1)) (EqN (m + 1) m' (RowsLe (m + 1) (fun i_1 => bif
 Nat.blt i_1 m then qRow C i_1 else List.take 3 (List.drop (0 + (i_1 - m) * 3) [AV.int .i64 (1 + pickF (X (Int.toNat i) 0) 11), AV.int .i64 (1 + pickF (X (Int.toNat i) 1) 4), AV.int .i64 (pickF (X (Int.toNat i) 2) 40 - 1)])) (qRow C) ∧ EqN (m + 1) m' (EqN n n (RowsLe n (qRow X) (qRow X) ∧ EqI (i + 1) i' Q))))))))))))))))) (EqN m mN (RowsLe m (qRow C) (qRow C) ∧ EqN m mN (EqN n n (RowsLe n (qRow X) (qRow X) ∧ EqI i iN True))))) (EqN m mN (RowsLe m (qRow C) (qRow C) ∧ EqN m mN (EqN n n (RowsLe n (qRow X) (qRow X) ∧ EqI i iN True))))) := by kernel_rfl
theorem conds_vc (n : Nat) (X C : Nat → Nat → Int) (iN : Int) (mN : Nat) (Q : AV → Prop) : (kb [] [(3008, 12, s66 n X C 0 0, e66 n X C iN mN)] 66 [qAV n X] Q) = (LoopAt PP II false (loopOf II 66 3008) 12 { t := .n (.n (.n .e (some (AV.own 12 0 3)) .e) none .e) (some (AV.fslice n 3 (qRow X))) (.n (.n .e (some (AV.int .i64 0)) .e) none .e), nt := 45, H := { n := 13, t := .n .e none (.n (.n .e none (.n .e (some (ABlk.rows 0 3 (qRow C) (Access.ty 76))) .e)) none .e) }, df := [] } (GE.one (AExit.x 0 { t := .n (.n (.n .e (some (AV.own 12 mN 3)) .e) none .e) (some (AV.fslice n 3 (qRow X))) (.n (.n .e (some (AV.int .i64 iN)) .e) none .e), nt := 45, H := { n := 13, t := .n .e none (.n (.n .e none (.n .e (some (ABlk.rows mN 3 (qRow C) (Access.ty 76))) .e)) none .e) }, df := [] })) ∧ EqN n n (RowsLe n (qRow X) (qRow X) ∧ Asks ((List.all (List.range.loop mN []) fun i => true) && decide (mN ≤ mN)) (Q
 (AV.fslice mN 3 (qRow C))))) := by kernel_rfl
end Go.Sx
end
section
set_option maxRecDepth 1000000
namespace Go.Sx
open Go
theorem qRow_le (X : Nat → Nat → Int) (σ : Nat → Nat) (j : Nat) : AVs.le σ (qRow X j) (qRow X j) := ⟨⟨rfl, rfl⟩, ⟨rfl, rfl⟩, ⟨rfl, rfl⟩, trivial⟩
theorem qRows (n : Nat) (X : Nat → Nat → Int) : RowsLe n (qRow X) (qRow X) := RowsLe.same fun σ j => qRow_le X σ j
theorem qrows_of {m : Nat} {g : Nat → List AV} {C : Nat → Nat → Int} (h : ∀ j, j < m → g j = qRow C j) : RowsLe m g (qRow C) := fun j hj σ => by rw [h j hj]; exact qRow_le C σ j
def x3Ok (X : Nat → Nat → Int) (j : Nat) : Prop := inR .i64 (X j 0) = true ∧ inR .i64 (X j 1) = true ∧ inR .i64 (X j 2) = true
theorem push_rows {m k : Nat} {C : Nat → Nat → Int} {r : List AV} (hr : r.length = 3) (hk : r = qRow C m) (hm : k = m + 1) :
    RowsLe k (fun j => bif Nat.blt j m then qRow C j else List.take 3 (List.drop (0 + (j - m) * 3) r)) (qRow C) := by
  refine qrows_of fun j hj => ?_
  by_cases h : j < m
  · simp only [(Nat.blt_eq ..).mpr h, cond_true]
  · have hj : j = m := by omega
    have hb : Nat.blt j m = false := by
      cases hb : Nat.blt j m with
      | false => rfl
      | true => exact absurd ((Nat.blt_eq ..).mp hb) h
    simp only [hb, cond_false]
    rw [hj, Nat.sub_self, ← hk]
    show List.take 3 r = r
    exact List.take_of_length_le (by omega)
theorem conds_loop (n : Nat) (X : Nat → Nat → Int) (hx : ∀ j, j < n → x3Ok X j) : LoopAt PP II false (loopOf II 66 3008) 12 (s66 n X (condI X) 0 0) (e66 n X (condI X) (min n 6 : Nat) (min n 6)) :=
  LoopAt.of (ι := Int × Nat) hII [kPick67] (lamT_ok PP II []) 1000 12 (fun p => p.1 = (p.2 : Int) ∧ p.2 ≤ min n 6) (fun p => s66 n X (condI X) p.1 p.2) (fun _ => e66 n X (condI X) (min n 6 : Nat) (min n 6)) (fun p => min n 6 - p.2) (fun p => (p.1 + 1, p.2 + 1)) (0, 0) rfl ⟨rfl, Nat.zero_le _⟩ fun p hp => by
    obtain ⟨i, m⟩ := p
    obtain ⟨h1, h2⟩ := hp
    simp only at h1 h2
    have hiN : ((min n 6 : Nat) : Int) = ((min n 6 : Nat) : Int) := rfl
    have hlt : min n 6 ≤ n ∧ min n 6 ≤ 6 := by omega
    have hge : min n 6 = n ∨ min n 6 = 6 := by omega
    generalize min n 6 = N at *
    generalize hN : (N : Int) = iN at *
    refine (conds_step n X (condI X) i (i + 1) iN m (m + 1) N _).mpr ?_
    have en : Int.ofNat n = (n : Int) := rfl
    have e1 : Int.toNat i = m := by omega
    rw [e1]
    have done : i = iN → EqN m N (RowsLe m (qRow (condI X)) (qRow (condI X)) ∧ EqN m N (EqN n n (RowsLe n (qRow X) (qRow X) ∧ EqI i iN True))) := fun h => EqN.mk (by omega) ⟨qRows _ _, EqN.mk (by omega) (EqN.mk rfl ⟨qRows _ _, EqI.mk h trivial⟩)⟩
    refine Cond.mkP (fun ha => Cond.mkP (fun hb => ?_) fun hb => done (by omega)) fun ha => done (by omega)
    obtain ⟨x0, x1, x2⟩ := hx m (by omega)
    have p0 := pickF_lt (c := X m 0) (n := 11) (by omega)
    have p1 := pickF_lt (c := X m 1) (n := 4) (by omega)
    have p2 := pickF_lt (c := X m 2) (n := 40) (by omega)
    have hb1 : (decide (0 ≤ i) && decide (i < Int.ofNat n)) = true := by simp only [Bool.and_eq_true, decide_eq_true_eq]; omega
    have hi : inR .i64 (i + 1) = true := inR_small (by omega) (by omega)
    have hs : (decide (m ≤ m) && true && true && decide ((m + 1) * 24 ≤ 140737488355328) && true) = true := by simp only [Bool.and_eq_true, Bool.and_true, decide_eq_true_eq]; omega
    have fin : ∀ {r : List AV} {Z : Prop}, r.length = 3 → r = qRow (condI X) m → Z → Asks (inR .i64 (i + 1)) (EqN (m + 1) (m + 1) (RowsLe (m + 1) (fun j => bif Nat.blt j m then qRow (condI X) j else List.take 3 (List.drop (0 + (j - m) * 3) r)) (qRow (condI X)) ∧ EqN (m + 1) (m + 1) (EqN n n (RowsLe n (qRow X) (qRow X) ∧ EqI (i + 1) (i + 1) Z)))) := fun hl hr z =>
      Asks.mk' _ _ hi (EqN.mk rfl ⟨push_rows hl hr rfl, EqN.mk rfl (EqN.mk rfl ⟨qRows _ _, EqI.mk rfl z⟩)⟩)
    refine Asks.mk' _ _ hb1 (Asks.mk' _ _ (by rw [x0]; rfl) (Asks.mk' _ _ (inR_small (by omega) (by omega)) (Cond.mkP (fun hc => ?_) fun hc => ?_)))
    all_goals
      refine Asks.mk' _ _ hb1 (Asks.mk' _ _ (by rw [x1]; rfl) (Asks.mk' _ _ (inR_small (by omega) (by omega)) (Asks.mk' _ _ hb1 (Asks.mk' _ _ (decide_eq_true rfl) (Asks.mk' _ _ (by rw [x2]; rfl) (Asks.mk' _ _ (inR_small (by omega) (by omega)) (Asks.mk' _ _ hs (fin rfl ?_ ?_))))))))
    · show _ = [AV.int .i64 (fieldI (X m 0)), _, _]
      have : fieldI (X m 0) = 8 := by unfold fieldI; rw [decide_eq_true hc]
      rw [this]; rfl
    · exact ⟨⟨by omega, by omega⟩, by omega, rfl⟩
    · show _ = [AV.int .i64 (fieldI (X m 0)), _, _]
      have : fieldI (X m 0) = 1 + pickF (X m 0) 11 := by unfold fieldI; rw [decide_eq_false hc]
      rw [this]; rfl
    · exact ⟨⟨by omega, by omega⟩, by omega, rfl⟩
theorem conds_ok (n : Nat) (X : Nat → Nat → Int) (hx : ∀ j, j < n → x3Ok X j) : CallGives PP II 66 [qAV n X] (AH.blank 12) (.ret (.fslice (min n 6) 3 (qRow (condI X))) (AH.blank 12)) := by
  have hloop := conds_loop n X hx
  generalize min n 6 = N at *
  generalize (N : Int) = iN at *
  refine of_kb (ks := []) (T := [(3008, 12, s66 n X (condI X) 0 0, e66 n X (condI X) iN N)]) (fun σ => ⟨rfl, rfl, fun i hi => qRow_le _ σ i⟩) ?_
  rw [conds_vc]
  exact ⟨hloop, EqN.mk rfl ⟨qRows _ _, Asks.mk' _ _ (by simp) rfl⟩⟩
def rowsX (f : Nat → List AV) (j k : Nat) : Int := getI (f j) k
theorem intRow_ok : ∀ (w : Nat) (cs : List AV), intRow w cs = true → cs.length = w ∧ ∀ k, k < w → cs[k]? = some (.int .i64 (getI cs k)) ∧ inR .i64 (getI cs k) = true
  | 0, [], _ => ⟨rfl, fun k hk => absurd hk (Nat.not_lt_zero _)⟩
  | w + 1, .int .i64 i :: cs, h => by
    simp only [intRow, Bool.and_eq_true] at h
    obtain ⟨h1, h2⟩ := intRow_ok w cs h.2
    refine ⟨by simp [h1], fun k hk => ?_⟩
    cases k with
    | zero => exact ⟨rfl, h.1⟩
    | succ k => exact h2 k (by omega)
  | 0, _ :: _, h => by cases h
theorem intRow3 {cs : List AV} (h : intRow 3 cs = true) : cs = [.int .i64 (getI cs 0), .int .i64 (getI cs 1), .int .i64 (getI cs 2)] ∧ inR .i64 (getI cs 0) = true ∧ inR .i64 (getI cs 1) = true ∧ inR .i64 (getI cs 2) = true := by
  obtain ⟨h1, h2⟩ := intRow_ok 3 cs h
  obtain ⟨a0, b0⟩ := h2 0 (by omega)
  obtain ⟨a1, b1⟩ := h2 1 (by omega)
  obtain ⟨a2, b2⟩ := h2 2 (by omega)
  refine ⟨?_, b0, b1, b2⟩
  match cs, h1 with
  | [x, y, z], _ =>
    simp only [List.getElem?_cons_zero, List.getElem?_cons_succ, Option.some.injEq] at a0 a1 a2
    rw [← a0, ← a1, ← a2]
theorem intRow4 {cs : List AV} (h : intRow 4 cs = true) : cs = [.int .i64 (getI cs 0), .int .i64 (getI cs 1), .int .i64 (getI cs 2), .int .i64 (getI cs 3)] ∧ inR .i64 (getI cs 0) = true ∧ inR .i64 (getI cs 1) = true ∧ inR .i64 (getI cs 2) = true ∧ inR .i64 (getI cs 3) = true := by
  obtain ⟨h1, h2⟩ := intRow_ok 4 cs h
  obtain ⟨a0, b0⟩ := h2 0 (by omega)
  obtain ⟨a1, b1⟩ := h2 1 (by omega)
  obtain ⟨a2, b2⟩ := h2 2 (by omega)
  obtain ⟨a3, b3⟩ := h2 3 (by omega)
  refine ⟨?_, b0, b1, b2, b3⟩
  match cs, h1 with
  | [x, y, z, u], _ =>
    simp only [List.getElem?_cons_zero, List.getElem?_cons_succ, Option.some.injEq] at a0 a1 a2 a3
    rw [← a0, ← a1, ← a2, ← a3]
theorem intsRows_ok {w n : Nat} {f : Nat → List AV} (h : intsRows w n f = true) {j : Nat} (hj : j < n) : intRow w (f j) = true := List.all_eq_true.1 h j (List.mem_range.2 hj)
noncomputable def kConds : Known PP II := Known.pure 66
  (fun X args kn => match args with
    | [.fslice n 3 f] => X.assert (intsRows 3 n f) (kn (.fslice (min n 6) 3 (qRow (condI (rowsX f)))))
    | _ => X.fail)
  fun X sem hX args kn h => by
    split at h
    · rename_i n f
      obtain ⟨h1, h2⟩ := hX.assert _ _ h
      refine ⟨_, h2, fun _ => rfl, fun _ => rfl, (conds_ok n (rowsX f) fun j hj => ?_).argsLe ⟨⟨rfl, rfl, fun i hi => ?_⟩, trivial⟩⟩
      · exact (intRow3 (intsRows_ok h1 hj)).2
      · rw [(intRow3 (intsRows_ok h1 hi)).1]; exact qRow_le (rowsX f) _ i
    · exact absurd h hX.fail
noncomputable def kMade10 : Known PP II := Known.pure 10
  (fun X args kn => match args with
    | [.fslice n 4 f] => X.assert (intsRows 4 n f) (kn (factsAV (madeL (rowsX f) (min n 40)).length (getL (madeL (rowsX f) (min n 40)))))
    | _ => X.fail)
  fun X sem hX args kn h => by
    split at h
    · rename_i n f
      obtain ⟨h1, h2⟩ := hX.assert _ _ h
      refine ⟨_, h2, fun _ => rfl, fun _ => rfl, (made10_ok n (rowsX f) fun j hj => ?_).argsLe ⟨⟨rfl, rfl, fun i hi => ?_⟩, trivial⟩⟩
      · exact (intRow4 (intsRows_ok h1 hj)).2
      · rw [(intRow4 (intsRows_ok h1 hi)).1]; exact xRow_le (rowsX f) _ i
    · exact absurd h hX.fail
end Go.Sx
end
