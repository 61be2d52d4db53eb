/- CertifySmall is proved, part 30. -/
import Derived.Test.YtleifmkjbmhlpaaGreatDoorX29
import Derived.Test.YtleifmkjbmhlpaaGreatDoorX21
import Derived.Test.YtleifmkjbmhlpaaGreatDoorX26
set_option linter.unusedVariables false
set_option linter.unusedSimpArgs false
set_option linter.unusedSectionVars false
section
set_option maxRecDepth 1000000
namespace Go.Sx
open Go
theorem pieces_len (ex : Node → Bool) : ∀ t, (piecesT ex t).length + 1 ≤ 2 * leavesT t
  | .leaf x => by unfold piecesT leavesT; split <;> exact Nat.le_refl _
  | .node l r => by
    have h1 := pieces_len ex l
    have h2 := pieces_len ex r
    have h3 := leaves_pos l
    have h4 := leaves_pos r
    unfold piecesT leavesT
    split
    · simp only [List.length_singleton]; omega
    · simp only [List.length_cons, List.length_append]; omega
theorem of_khle {ks : List (Known PP II)} {T : LTab} {f : FuncId} {args : List AV} {a0 a' : AV} (hle : ∀ σ, AV.le σ a0 a') (h : kh ks T f args (fun a => a = a0)) : CallGives PP II f args HB (.ret a' HB) := by
  obtain ⟨o, h1, h2⟩ := kbody_ok hII ks (lamT_ok PP II T) 1000 f args HB _ _ h
  cases o with
  | ret a H1 =>
    obtain ⟨x, H2, k1, k2⟩ := frz_ok RI.prop_ok _ _ _ _ h1
    obtain ⟨k0, k1⟩ := Asks.and k1
    have k1 : x = a0 := k1
    subst k1
    simp only [Bool.and_eq_true] at k0
    refine (h2.fzRes k2).le (ResLe.of [] (HeapLe.of (by rfl) rfl rfl rfl k0.1 (allN_iff.2 fun l hl => ?_)) (hle _))
    rw [HB_get]
    by_cases e : l = 2
    · subst e
      rw [if_pos rfl]
      have e2 : sig HB.n [] H2.n 2 = 2 := rfl
      have := Nat.le_of_ble_eq_true k0.1
      show if sig HB.n [] H2.n 2 < H2.n then ABlk.le (sig HB.n [] H2.n) (H2.get (sig HB.n [] H2.n 2)) (ABlk.cells constAVs Access.ro) else _
      rw [e2, if_pos (by omega), roInts_eq k0.2]
      exact ⟨constAVs_le _, trivial⟩
    · rw [if_neg e]; trivial
  | pan a H1 => exact h1.elim
def provedP (n : Nat) (F : Nat → Fact) (nw : Nat) (C : Nat → Nat → Int) : List Piece := bif Nat.beq n 0 then [] else piecesT (exN nw C) (growT 20 n F)
def piecesAV (n : Nat) (l : List Piece) : AV := .agg [.int .i64 (Int.ofNat n), .fslice l.length 29 (catR 0 (fun _ => []) l)]
def proveOk (n : Nat) (F : Nat → Fact) : Bool := validsF n F && (Nat.beq n 0 || (growOk 20 n && factsOk n F && Nat.ble n 400000))
theorem piecesAV_le (n : Nat) (l : List Piece) (σ : Nat → Nat) : AV.le σ (piecesAV n l) (piecesAV n l) := by
  refine ⟨⟨rfl, rfl⟩, ⟨rfl, rfl, fun i hi => ?_⟩, trivial⟩
  exact rowsFree_le (catR_free none_free) σ i
theorem prove_pos {n : Nat} {F : Nat → Fact} {q : Query} (h0 : Nat.beq n 0 = false) (h : proveOk n F = true) (h1 : intsRows 3 q.nw (qRow q.C) = true) (h2 : intsRows 1 q.ng (gRow q.G) = true) (h3 : qok q = true) (h4 : opsB q.nw q.C = true) :
    CallGives PP II 12 [factsAV n F, .agg (queryAV q)] HB (.ret (.tup [piecesAV n (provedP n F q.nw q.C), .int .i64 0]) HB) := by
  unfold proveOk at h
  unfold provedP
  rw [h0] at h ⊢
  rw [cond_false]
  simp only [Bool.false_or, Bool.and_eq_true] at h
  obtain ⟨hv, ⟨hg, hf⟩, hn⟩ := h
  have hn := Nat.le_of_ble_eq_true hn
  have hp : n ≠ 0 := fun e => by rw [e] at h0; cases h0
  have hlen : (piecesT (exN q.nw (rowsX (qRow q.C))) (growT 20 n F)).length ≤ 1000000 := by
    have := pieces_len (exN q.nw (rowsX (qRow q.C))) (growT 20 n F)
    have hl := (grow_facts 20 n F 20 hg (by omega)).1
    omega
  refine of_kh (ks := ks12) (T := []) (fun σ => ⟨piecesAV_le _ _ σ, ⟨rfl, rfl⟩, trivial⟩) ?_
  refine (prove_vc n F q _).mpr ?_
  refine Asks.mk' _ _ (by rw [decide_eq_true (show n ≤ 1000000 by omega), Bool.true_and]; exact isFacts_facts n F) ?_
  refine Cond.mk (fun h => ?_) fun _ => ?_
  · have h : (!validsF n F) = true := h
    rw [hv] at h; cases h
  refine Asks.mk' _ _ (by rw [h1, h2]; rfl) (Asks.mk' _ _ ((qok_back q).trans h3) (Cond.mk (fun _ => ?_) fun h => ?_))
  · have hq : qcOk ⟨q.nw, qRow q.C, q.ng, gRow q.G, q.a, q.fl, q.nu, q.de, q.top⟩ = true := by unfold qcOk; rw [h1, h2]; exact h4
    have ht : isTree (fun _ => True) (treeAV (growT 20 n F)) = true := isTree_tree trivial
    have eN : putN q.nw (qRow q.C) (treeAV (growT 20 n F)) = (piecesT (exN q.nw (rowsX (qRow q.C))) (growT 20 n F)).length := putN_tree _ _ _
    have eR : putR q.nw (qRow q.C) 0 (fun _ => []) (treeAV (growT 20 n F)) = catR 0 (fun _ => []) (piecesT (exN q.nw (rowsX (qRow q.C))) (growT 20 n F)) := putR_tree _ _ _ _ _
    refine Asks.mk' _ _ (isFacts_facts _ _) (Asks.mk' _ _ hg (Asks.mk' _ _ hf (Asks.mk' _ _ ht (Asks.mk' _ _ ?_ (Asks.mk' _ _ ?_ ?_)))))
    · show (intsRows 3 q.nw (qRow q.C) && intsRows 1 q.ng (gRow q.G) && opsB q.nw (rowsX (qRow q.C)) && decide (putN q.nw (qRow q.C) (treeAV (growT 20 n F)) ≤ 1000000)) = true
      rw [h1, h2, show opsB q.nw (rowsX (qRow q.C)) = true from h4, eN]
      simp only [Bool.and_true, Bool.true_and, decide_eq_true_eq]
      exact hlen
    · show ((List.range (putN q.nw (qRow q.C) (treeAV (growT 20 n F)))).all (fun i => AVs.free (putR q.nw (qRow q.C) 0 (fun _ => []) (treeAV (growT 20 n F)) i)) && decide (putN q.nw (qRow q.C) (treeAV (growT 20 n F)) ≤ putN q.nw (qRow q.C) (treeAV (growT 20 n F)))) = true
      rw [eR, decide_eq_true (Nat.le_refl _), Bool.and_true]
      refine List.all_eq_true.2 fun i _ => ?_
      show AVs.free (pieceAV _) = true
      rfl
    · show AV.tup [.agg [.int .i64 (Int.ofNat n), .fslice (putN q.nw (qRow q.C) (treeAV (growT 20 n F))) 29 (putR q.nw (qRow q.C) 0 (fun _ => []) (treeAV (growT 20 n F)))], .int .i64 0] = _
      rw [eN, eR]
      rfl
  · have := of_decide_eq_false h
    have : ¬ ((n : Int) > 0) := this
    omega
theorem prove_zero {F : Nat → Fact} {q : Query} (h : proveOk 0 F = true) (h1 : intsRows 3 q.nw (qRow q.C) = true) (h2 : intsRows 1 q.ng (gRow q.G) = true) (h3 : qok q = true) :
    CallGives PP II 12 [factsAV 0 F, .agg (queryAV q)] HB (.ret (.tup [piecesAV 0 (provedP 0 F q.nw q.C), .int .i64 0]) HB) := by
  unfold proveOk at h
  simp only [Bool.and_eq_true] at h
  have hv := h.1
  refine of_khle (a0 := .tup [.agg [.int .i64 0, .nilSlice], .int .i64 0]) (ks := ks12) (T := []) (fun σ => ⟨⟨⟨rfl, rfl⟩, rfl, trivial⟩, ⟨rfl, rfl⟩, trivial⟩) ?_
  refine (prove_vc 0 F q _).mpr ?_
  refine Asks.mk' _ _ rfl ?_
  refine Cond.mk (fun h => ?_) fun _ => ?_
  · have h : (!validsF 0 F) = true := h
    rw [hv] at h; cases h
  refine Asks.mk' _ _ (by rw [h1, h2]; rfl) (Asks.mk' _ _ ((qok_back q).trans h3) (Cond.mk (fun h => ?_) fun h => rfl))
  exact absurd (of_decide_eq_true h) (by decide)
theorem prove_ok {n : Nat} {F : Nat → Fact} {q : Query} (h : proveOk n F = true) (h1 : intsRows 3 q.nw (qRow q.C) = true) (h2 : intsRows 1 q.ng (gRow q.G) = true) (h3 : qok q = true) (h4 : opsB q.nw q.C = true) :
    CallGives PP II 12 [factsAV n F, .agg (queryAV q)] HB (.ret (.tup [piecesAV n (provedP n F q.nw q.C), .int .i64 0]) HB) := by
  cases h0 : Nat.beq n 0 with
  | false => exact prove_pos h0 h h1 h2 h3 h4
  | true =>
    have := Nat.eq_of_beq_eq_true h0
    subst this
    exact prove_zero h h1 h2 h3
noncomputable def kProve : Known PP II := Known.onHB 12
  (fun X args kn => match args with
    | [.fslice n 10 f, .agg [.fslice nw 3 C, .fslice ng 1 g, .int .i64 a, .int .i64 fl, .str nu, .str de, .int .i64 top]] =>
      X.assert (isFacts n f) (X.assert (intsRows 3 nw C && intsRows 1 ng g) (X.assert (proveOk n (factAt f)) (X.assert (opsB nw (rowsX C)) (X.assert (qok ⟨nw, rowsX C, ng, fun j => getI (g j) 0, a, fl, nu, de, top⟩) (kn (.tup [piecesAV n (provedP n (factAt f) nw (rowsX C)), .int .i64 0]))))))
    | _ => X.fail)
  fun X sem hX args kn h => by
    split at h
    · rename_i n f nw C ng g a fl nu de top
      obtain ⟨e1, k1⟩ := hX.assert _ _ h
      obtain ⟨e2, k2⟩ := hX.assert _ _ k1
      obtain ⟨e3, k3⟩ := hX.assert _ _ k2
      obtain ⟨e4, k4⟩ := hX.assert _ _ k3
      obtain ⟨e5, k5⟩ := hX.assert _ _ k4
      rw [Bool.and_eq_true] at e2
      exact ⟨_, k5, fun _ => rfl, fun _ => rfl, (prove_ok (q := ⟨nw, rowsX C, ng, fun j => getI (g j) 0, a, fl, nu, de, top⟩) e3 (qRow_ints e2.1) (gRow_ints e2.2) e5 e4).argsLe ⟨isFacts_ok e1, query_args e2.1 e2.2, trivial⟩⟩
    · exact absurd h hX.fail
end Go.Sx
end
section
set_option maxRecDepth 1000000
namespace Go.Sx
open Go
structure LW where
  (L : Nat) (F : Nat → Fact) (M : Nat) (p : Nat → Piece)
noncomputable def h4 (w : LW) : AH := { n := 18, t := Tr.ofList [(17, .cells [.int .i64 (Int.ofNat w.L), .fslice w.M 29 (fun j => pieceAV (w.p j))] (.ty 38))] }
noncomputable def s4 (w : LW) (i fc : Int) (b : Bool) : St := { t := Tr.ofList [(5, .bool true), (6, factsAV w.L w.F), (7, .ptr 17 0 0 0), (9, .int .i64 fc), (10, .bool b), (11, .int .i64 i)], nt := 126, H := h4 w, df := [] }
noncomputable def e4 (w : LW) (fc : Int) (b : Bool) : GE := .one (.x 0 { t := Tr.ofList [(5, .bool true), (6, factsAV w.L w.F), (7, .ptr 17 0 0 0), (9, .int .i64 fc), (10, .bool b)], nt := 126, H := h4 w, df := [] })
noncomputable def s4i (w : LW) (i fc : Int) (b : Bool) (f nd j : Int) : St := { t := Tr.ofList [(5, .bool true), (6, factsAV w.L w.F), (7, .ptr 17 0 0 0), (9, .int .i64 fc), (10, .bool b), (11, .int .i64 i), (12, .int .i64 f), (13, .int .i64 nd), (14, .int .i64 j)], nt := 126, H := h4 w, df := [] }
noncomputable def e4i (w : LW) (i fc : Int) (b : Bool) (f : Int) : GE := .one (.x 2 { t := Tr.ofList [(5, .bool true), (6, factsAV w.L w.F), (7, .ptr 17 0 0 0), (9, .int .i64 fc), (10, .bool b), (11, .int .i64 i), (12, .int .i64 f)], nt := 126, H := h4 w, df := [] })
noncomputable def s4b (w : LW) (fc : Int) (b : Bool) (bt x : Int) : St := { t := Tr.ofList [(5, .bool true), (7, .ptr 17 0 0 0), (9, .int .i64 fc), (10, .bool b), (15, .int .i64 bt), (16, .int .i64 x)], nt := 126, H := h4 w, df := [] }
noncomputable def e4b (w : LW) (fc : Int) (b : Bool) (bt : Int) : GE := .one (.x 4 { t := Tr.ofList [(5, .bool true), (7, .ptr 17 0 0 0), (9, .int .i64 fc), (10, .bool b), (15, .int .i64 bt)], nt := 126, H := h4 w, df := [] })
theorem eat_step (w : LW) (i fc : Int) (b : Bool) (f nd j f' nd' j' fN : Int) (Q : Prop) : (kr [] [] 4 17009 18 (fun x : Int × Int × Int => s4i w i fc b x.1 x.2.1 x.2.2) (fun _ => e4i w i fc b fN) (fun _ => (f', nd', j')) Q (f, nd, j)) = (let zz1 := (RowsLe w.M (fun j => [AV.int .i64 (w.p j).k, AV.int .i64 ((w.p j).x.t), AV.int .i64 ((w.p j).x.s), AV.int .i64 ((w.p j).x.v), AV.int .i64 ((w.p j).x.w), AV.int .i64 ((w.p j).x.o), AV.int .i64 ((w.p j).x.p), AV.int .i64 ((w.p j).x.d), AV.int .i64 ((w.p j).x.l), AV.int .i64 ((w.p j).x.h), AV.int .i64 ((w.p j).x.b), AV.int .i64 ((w.p j).nd.lo 0), AV.int .i64 ((w.p j).nd.lo 1), AV.int .i64 ((w.p j).nd.lo 2), AV.int .i64 ((w.p j).nd.lo 3), AV.int .i64 ((w.p j).nd.lo 4), AV.int .i64 ((w.p j).nd.lo 5), AV.int .i64 ((w.p j).nd.lo 6), AV.int .i64 ((w.p j).nd.lo 7), AV.int .i64 ((w.p j).nd.hi 0), AV.int .i64 ((w.p j).nd.hi 1), AV.int .i64 ((w.p
 j).nd.hi 2), AV.int .i64 ((w.p j).nd.hi 3), AV.int .i64 ((w.p j).nd.hi 4), AV.int .i64 ((w.p j).nd.hi 5), AV.int .i64 ((w.p j).nd.hi 6), AV.int .i64 ((w.p j).nd.hi 7), AV.str ((w.p j).nd.l), AV.str ((w.p j).nd.r)]) fun j => [AV.int .i64 (w.p j).k, AV.int .i64 ((w.p j).x.t), AV.int .i64 ((w.p j).x.s), AV.int .i64 ((w.p j).x.v), AV.int .i64 ((w.p j).x.w), AV.int .i64 ((w.p j).x.o), AV.int .i64 ((w.p j).x.p), AV.int .i64 ((w.p j).x.d), AV.int .i64 ((w.p j).x.l), AV.int .i64 ((w.p j).x.h), AV.int .i64 ((w.p j).x.b), AV.int .i64 ((w.p j).nd.lo 0), AV.int .i64 ((w.p j).nd.lo 1), AV.int .i64 ((w.p j).nd.lo 2), AV.int .i64 ((w.p j).nd.lo 3), AV.int .i64 ((w.p j).nd.lo 4), AV.int .i64 ((w.p j).nd.lo 5), AV.int .i64 ((w.p j).nd.lo 6), AV.int .i64 ((w.p j).nd.lo 7), AV.int .i64 ((w.p j).nd.hi 0), AV.int .i64 ((w.p j).nd.hi 1), AV.int .i64 ((w.p j).nd.hi 2), AV.int .i64 ((w.p j).nd.hi 3), AV.int
 .i64 ((w.p j).nd.hi 4), AV.int .i64 ((w.p j).nd.hi 5), AV.int .i64 ((w.p j).nd.hi 6), AV.int .i64 ((w.p j).nd.hi 7), AV.str ((w.p j).nd.l), AV.str ((w.p j).nd.r)]); let zz2 := (RowsLe w.L (fun i => [AV.int .i64 (w.F i).t, AV.int .i64 (w.F i).s, AV.int .i64 (w.F i).v, AV.int .i64 (w.F i).w, AV.int .i64 (w.F i).o, AV.int .i64 (w.F i).p, AV.int .i64 (w.F i).d, AV.int .i64 (w.F i).l, AV.int .i64 (w.F i).h, AV.int .i64 (w.F i).b]) fun i => [AV.int .i64 (w.F i).t, AV.int .i64 (w.F i).s, AV.int .i64 (w.F i).v, AV.int .i64 (w.F i).w, AV.int .i64 (w.F i).o, AV.int .i64 (w.F i).p, AV.int .i64 (w.F i).d, AV.int .i64 (w.F i).l, AV.int .i64 (w.F i).h, AV.int .i64 (w.F i).b]); (Cond (decide (j < Int.ofNat w.M)) (Cond (decide (nd > 0)) (Asks (inR .i64 (nd - 1)) (Asks (decide (0 ≤ j) && decide (j < Int.ofNat w.M)) (Cond (decide (Piece.k (w.p (Int.toNat j)) = 1)) (Asks (inR .i64 (nd - 1 + 2)) (Asks
 (decide (0 ≤ j) && decide (j < Int.ofNat w.M)) (Cond (decide (Piece.k (w.p (Int.toNat j)) = 2)) (Asks (inR .i64 (f + 1)) (Asks (inR .i64 (j + 1)) (EqI (Int.ofNat w.L) (Int.ofNat w.L) (EqN w.M w.M (zz1 ∧ EqI i i (EqI fc fc (true = true ∧ EqI (nd - 1 + 2) nd' (EqI (f + 1) f' (b = b ∧ EqN w.L w.L (zz2 ∧ EqI (j + 1) j' Q)))))))))) (Asks (inR .i64 (j + 1)) (EqI (Int.ofNat w.L) (Int.ofNat w.L) (EqN w.M w.M (zz1 ∧ EqI i i (EqI fc fc (true = true ∧ EqI (nd - 1 + 2) nd' (EqI f f' (b = b ∧ EqN w.L w.L (zz2 ∧ EqI (j + 1) j' Q)))))))))))) (Asks (decide (0 ≤ j) && decide (j < Int.ofNat w.M)) (Cond (decide (Piece.k (w.p (Int.toNat j)) = 2)) (Asks (inR .i64 (f + 1)) (Asks (inR .i64 (j + 1)) (EqI (Int.ofNat w.L) (Int.ofNat w.L) (EqN w.M w.M (zz1 ∧ EqI i i (EqI fc fc (true = true ∧ EqI (nd - 1) nd' (EqI (f + 1) f' (b = b ∧ EqN w.L w.L (zz2 ∧ EqI (j + 1) j' Q)))))))))) (Asks (inR .i64 (j + 1)) (EqI
 (Int.ofNat w.L) (Int.ofNat w.L) (EqN w.M w.M (zz1 ∧ EqI i i (EqI fc fc (true = true ∧ EqI (nd - 1) nd' (EqI f f' (b = b ∧ EqN w.L w.L (zz2 ∧ EqI (j + 1) j' Q)))))))))))))) (EqI (Int.ofNat w.L) (Int.ofNat w.L) (EqN w.M w.M (zz1 ∧ EqI i i (EqI fc fc (true = true ∧ EqI f fN (b = b ∧ EqN w.L w.L (zz2 ∧ True)))))))) (EqI (Int.ofNat w.L) (Int.ofNat w.L) (EqN w.M w.M (zz1 ∧ EqI i i (EqI fc fc (true = true ∧ EqI f fN (b = b ∧ EqN w.L w.L (zz2 ∧ True))))))))) := by kernel_rfl
theorem pieces_step (w : LW) (i fc : Int) (b : Bool) (f i' fc' : Int) (b' : Bool) (fcN : Int) (bN : Bool) (Q : Prop) : (kr [] [(17009, 18, s4i w i fc b 0 2 (i + 1), e4i w i fc b f)] 4 9005 18 (fun x : Int × Int × Bool => s4 w x.1 x.2.1 x.2.2) (fun _ => e4 w fcN bN) (fun _ => (i', fc', b')) Q (i, fc, b)) = (let zz1 := (RowsLe w.M (fun j => [AV.int .i64 (w.p j).k, AV.int .i64 ((w.p j).x.t), AV.int .i64 ((w.p j).x.s), AV.int .i64 ((w.p j).x.v), AV.int .i64 ((w.p j).x.w), AV.int .i64 ((w.p j).x.o), AV.int .i64 ((w.p j).x.p), AV.int .i64 ((w.p j).x.d), AV.int .i64 ((w.p j).x.l), AV.int .i64 ((w.p j).x.h), AV.int .i64 ((w.p j).x.b), AV.int .i64 ((w.p j).nd.lo 0), AV.int .i64 ((w.p j).nd.lo 1), AV.int .i64 ((w.p j).nd.lo 2), AV.int .i64 ((w.p j).nd.lo 3), AV.int .i64 ((w.p j).nd.lo 4), AV.int .i64 ((w.p j).nd.lo 5), AV.int .i64 ((w.p j).nd.lo 6), AV.int .i64 ((w.p j).nd.lo 7), AV.int .i64 ((w.p
 j).nd.hi 0), AV.int .i64 ((w.p j).nd.hi 1), AV.int .i64 ((w.p j).nd.hi 2), AV.int .i64 ((w.p j).nd.hi 3), AV.int .i64 ((w.p j).nd.hi 4), AV.int .i64 ((w.p j).nd.hi 5), AV.int .i64 ((w.p j).nd.hi 6), AV.int .i64 ((w.p j).nd.hi 7), AV.str ((w.p j).nd.l), AV.str ((w.p j).nd.r)]) fun j => [AV.int .i64 (w.p j).k, AV.int .i64 ((w.p j).x.t), AV.int .i64 ((w.p j).x.s), AV.int .i64 ((w.p j).x.v), AV.int .i64 ((w.p j).x.w), AV.int .i64 ((w.p j).x.o), AV.int .i64 ((w.p j).x.p), AV.int .i64 ((w.p j).x.d), AV.int .i64 ((w.p j).x.l), AV.int .i64 ((w.p j).x.h), AV.int .i64 ((w.p j).x.b), AV.int .i64 ((w.p j).nd.lo 0), AV.int .i64 ((w.p j).nd.lo 1), AV.int .i64 ((w.p j).nd.lo 2), AV.int .i64 ((w.p j).nd.lo 3), AV.int .i64 ((w.p j).nd.lo 4), AV.int .i64 ((w.p j).nd.lo 5), AV.int .i64 ((w.p j).nd.lo 6), AV.int .i64 ((w.p j).nd.lo 7), AV.int .i64 ((w.p j).nd.hi 0), AV.int .i64 ((w.p j).nd.hi 1), AV.int
 .i64 ((w.p j).nd.hi 2), AV.int .i64 ((w.p j).nd.hi 3), AV.int .i64 ((w.p j).nd.hi 4), AV.int .i64 ((w.p j).nd.hi 5), AV.int .i64 ((w.p j).nd.hi 6), AV.int .i64 ((w.p j).nd.hi 7), AV.str ((w.p j).nd.l), AV.str ((w.p j).nd.r)]); let zz2 := (RowsLe w.L (fun i => [AV.int .i64 (w.F i).t, AV.int .i64 (w.F i).s, AV.int .i64 (w.F i).v, AV.int .i64 (w.F i).w, AV.int .i64 (w.F i).o, AV.int .i64 (w.F i).p, AV.int .i64 (w.F i).d, AV.int .i64 (w.F i).l, AV.int .i64 (w.F i).h, AV.int .i64 (w.F i).b]) fun i => [AV.int .i64 (w.F i).t, AV.int .i64 (w.F i).s, AV.int .i64 (w.F i).v, AV.int .i64 (w.F i).w, AV.int .i64 (w.F i).o, AV.int .i64 (w.F i).p, AV.int .i64 (w.F i).d, AV.int .i64 (w.F i).l, AV.int .i64 (w.F i).h, AV.int .i64 (w.F i).b]); let zz3 := (ABlk.cells [AV.int .i64 (Int.ofNat w.L), AV.fslice w.M 29 fun j => [AV.int .i64 (w.p j).k, AV.int .i64 ((w.p j).x.t), AV.int .i64 ((w.p j).x.s), AV.int
 .i64 ((w.p j).x.v), AV.int .i64 ((w.p j).x.w), AV.int .i64 ((w.p j).x.o), AV.int .i64 ((w.p j).x.p), AV.int .i64 ((w.p j).x.d), AV.int .i64 ((w.p j).x.l), AV.int .i64 ((w.p j).x.h), AV.int .i64 ((w.p j).x.b), AV.int .i64 ((w.p j).nd.lo 0), AV.int .i64 ((w.p j).nd.lo 1), AV.int .i64 ((w.p j).nd.lo 2), AV.int .i64 ((w.p j).nd.lo 3), AV.int .i64 ((w.p j).nd.lo 4), AV.int .i64 ((w.p j).nd.lo 5), AV.int .i64 ((w.p j).nd.lo 6), AV.int .i64 ((w.p j).nd.lo 7), AV.int .i64 ((w.p j).nd.hi 0), AV.int .i64 ((w.p j).nd.hi 1), AV.int .i64 ((w.p j).nd.hi 2), AV.int .i64 ((w.p j).nd.hi 3), AV.int .i64 ((w.p j).nd.hi 4), AV.int .i64 ((w.p j).nd.hi 5), AV.int .i64 ((w.p j).nd.hi 6), AV.int .i64 ((w.p j).nd.hi 7), AV.str ((w.p j).nd.l), AV.str ((w.p j).nd.r)]] (Access.ty 38)); let zz4 := (AV.fslice w.L 10 fun i => [AV.int .i64 (w.F i).t, AV.int .i64 (w.F i).s, AV.int .i64 (w.F i).v, AV.int .i64 (w.F i).w,
 AV.int .i64 (w.F i).o, AV.int .i64 (w.F i).p, AV.int .i64 (w.F i).d, AV.int .i64 (w.F i).l, AV.int .i64 (w.F i).h, AV.int .i64 (w.F i).b]); (Cond (decide (i < Int.ofNat w.M)) (Asks (decide (0 ≤ i) && decide (i < Int.ofNat w.M)) (Cond (decide (Piece.k (w.p (Int.toNat i)) = 2)) (Asks (inR .i64 (fc + 1)) (Asks (decide (0 ≤ i) && decide (i < Int.ofNat w.M)) (Cond (!decide (Piece.k (w.p (Int.toNat i)) = 1)) (Asks (inR .i64 (i + 1)) (EqI (Int.ofNat w.L) (Int.ofNat w.L) (EqN w.M w.M (zz1 ∧ EqI (i + 1) i' (EqI (fc + 1) fc' (true = true ∧ b = b' ∧ EqN w.L w.L (zz2 ∧ Q))))))) (Asks (inR .i64 (i + 1)) (LoopAt PP II false (loopOf II 4 17009) 18 { t := .n (.n (.n (.n .e (some (AV.ptr 17 0 0 0)) .e) none (.n .e (some (AV.int .i64 i)) .e)) none (.n (.n .e (some (AV.int .i64 fc)) .e) (some (AV.bool true)) (.n .e (some (AV.int .i64 2)) .e))) none (.n (.n .e none (.n .e (some (AV.int .i64 0)) .e)) none (.n (.n .e (some (AV.bool b)) .e) (some zz4) (.n .e (some (AV.int .i64 (i + 1))) .e))), nt := 126, H := { n := 18, t := .n (.n .e none (.n (.n (.n .e (some zz3) .e) none .e) none .e)) none .e }, df := [] }
 (GE.one (AExit.x 2 { t := .n (.n (.n (.n .e (some (AV.ptr 17 0 0 0)) .e) none (.n .e (some (AV.int .i64 i)) .e)) none (.n (.n .e (some (AV.int .i64 fc)) .e) (some (AV.bool true)) .e)) none (.n (.n .e none (.n .e (some (AV.int .i64 f)) .e)) none (.n (.n .e (some (AV.bool b)) .e) (some zz4) .e)), nt := 126, H := { n := 18, t := .n (.n .e none (.n (.n (.n .e (some zz3) .e) none .e) none .e)) none .e }, df := [] })) ∧ EqI (Int.ofNat w.L) (Int.ofNat w.L) (EqN w.M w.M (zz1 ∧ EqI i i (EqI (fc + 1) fc (true = true ∧ b = b ∧ EqN w.L w.L (zz2 ∧ EqI (i + 1) (i + 1) (Cond b (Asks (inR .i64 (i + 1)) (EqI (Int.ofNat w.L) (Int.ofNat w.L) (EqN w.M w.M (zz1 ∧ EqI (i + 1) i' (EqI fc fc' (true = true ∧ true = b' ∧ EqN w.L w.L (zz2 ∧ Q))))))) (Asks (inR .i64 (i + 1)) (EqI (Int.ofNat w.L) (Int.ofNat w.L) (EqN w.M w.M (zz1 ∧ EqI (i + 1) i' (EqI fc fc' (true = true ∧ decide (f = 0) = b' ∧ EqN w.L w.L (zz2 ∧
 Q)))))))))))))))))) (Asks (decide (0 ≤ i) && decide (i < Int.ofNat w.M)) (Cond (!decide (Piece.k (w.p (Int.toNat i)) = 1)) (Asks (inR .i64 (i + 1)) (EqI (Int.ofNat w.L) (Int.ofNat w.L) (EqN w.M w.M (zz1 ∧ EqI (i + 1) i' (EqI fc fc' (true = true ∧ b = b' ∧ EqN w.L w.L (zz2 ∧ Q))))))) (Asks (inR .i64 (i + 1)) (LoopAt PP II false (loopOf II 4 17009) 18 { t := .n (.n (.n (.n .e (some (AV.ptr 17 0 0 0)) .e) none (.n .e (some (AV.int .i64 i)) .e)) none (.n (.n .e (some (AV.int .i64 fc)) .e) (some (AV.bool true)) (.n .e (some (AV.int .i64 2)) .e))) none (.n (.n .e none (.n .e (some (AV.int .i64 0)) .e)) none (.n (.n .e (some (AV.bool b)) .e) (some zz4) (.n .e (some (AV.int .i64 (i + 1))) .e))), nt := 126, H := { n := 18, t := .n (.n .e none (.n (.n (.n .e (some zz3) .e) none .e) none .e)) none .e }, df := [] } (GE.one (AExit.x 2 { t := .n (.n (.n (.n .e (some (AV.ptr 17 0 0 0)) .e) none (.n .e (some (AV.int .i64 i)) .e)) none (.n (.n .e (some (AV.int .i64 fc)) .e) (some (AV.bool true)) .e)) none (.n (.n .e none (.n .e (some (AV.int .i64 f)) .e)) none (.n (.n .e (some (AV.bool b)) .e) (some zz4) .e)), nt := 126, H := { n := 18, t := .n (.n .e none (.n (.n (.n .e (some zz3) .e) none .e) none .e)) none .e }, df := [] }))
 ∧ EqI (Int.ofNat w.L) (Int.ofNat w.L) (EqN w.M w.M (zz1 ∧ EqI i i (EqI fc fc (true = true ∧ b = b ∧ EqN w.L w.L (zz2 ∧ EqI (i + 1) (i + 1) (Cond b (Asks (inR .i64 (i + 1)) (EqI (Int.ofNat w.L) (Int.ofNat w.L) (EqN w.M w.M (zz1 ∧ EqI (i + 1) i' (EqI fc fc' (true = true ∧ true = b' ∧ EqN w.L w.L (zz2 ∧ Q))))))) (Asks (inR .i64 (i + 1)) (EqI (Int.ofNat w.L) (Int.ofNat w.L) (EqN w.M w.M (zz1 ∧ EqI (i + 1) i' (EqI fc fc' (true = true ∧ decide (f = 0) = b' ∧ EqN w.L w.L (zz2 ∧ Q))))))))))))))))))) (EqI (Int.ofNat w.L) (Int.ofNat w.L) (EqN w.M w.M (zz1 ∧ EqI fc fcN (true = true ∧ b = bN ∧ EqN w.L w.L (zz2 ∧ True))))))) := by kernel_rfl
theorem bits_step (w : LW) (fc : Int) (b : Bool) (bt x bt' x' btN : Int) (Q : Prop) : (kr [] [] 4 27002 18 (fun y : Int × Int => s4b w fc b y.1 y.2) (fun _ => e4b w fc b btN) (fun _ => (bt', x')) Q (bt, x)) = (let zz1 := (RowsLe w.M (fun j => [AV.int .i64 (w.p j).k, AV.int .i64 ((w.p j).x.t), AV.int .i64 ((w.p j).x.s), AV.int .i64 ((w.p j).x.v), AV.int .i64 ((w.p j).x.w), AV.int .i64 ((w.p j).x.o), AV.int .i64 ((w.p j).x.p), AV.int .i64 ((w.p j).x.d), AV.int .i64 ((w.p j).x.l), AV.int .i64 ((w.p j).x.h), AV.int .i64 ((w.p j).x.b), AV.int .i64 ((w.p j).nd.lo 0), AV.int .i64 ((w.p j).nd.lo 1), AV.int .i64 ((w.p j).nd.lo 2), AV.int .i64 ((w.p j).nd.lo 3), AV.int .i64 ((w.p j).nd.lo 4), AV.int .i64 ((w.p j).nd.lo 5), AV.int .i64 ((w.p j).nd.lo 6), AV.int .i64 ((w.p j).nd.lo 7), AV.int .i64 ((w.p j).nd.hi 0), AV.int .i64 ((w.p j).nd.hi 1), AV.int .i64 ((w.p j).nd.hi 2), AV.int .i64 ((w.p
 j).nd.hi 3), AV.int .i64 ((w.p j).nd.hi 4), AV.int .i64 ((w.p j).nd.hi 5), AV.int .i64 ((w.p j).nd.hi 6), AV.int .i64 ((w.p j).nd.hi 7), AV.str ((w.p j).nd.l), AV.str ((w.p j).nd.r)]) fun j => [AV.int .i64 (w.p j).k, AV.int .i64 ((w.p j).x.t), AV.int .i64 ((w.p j).x.s), AV.int .i64 ((w.p j).x.v), AV.int .i64 ((w.p j).x.w), AV.int .i64 ((w.p j).x.o), AV.int .i64 ((w.p j).x.p), AV.int .i64 ((w.p j).x.d), AV.int .i64 ((w.p j).x.l), AV.int .i64 ((w.p j).x.h), AV.int .i64 ((w.p j).x.b), AV.int .i64 ((w.p j).nd.lo 0), AV.int .i64 ((w.p j).nd.lo 1), AV.int .i64 ((w.p j).nd.lo 2), AV.int .i64 ((w.p j).nd.lo 3), AV.int .i64 ((w.p j).nd.lo 4), AV.int .i64 ((w.p j).nd.lo 5), AV.int .i64 ((w.p j).nd.lo 6), AV.int .i64 ((w.p j).nd.lo 7), AV.int .i64 ((w.p j).nd.hi 0), AV.int .i64 ((w.p j).nd.hi 1), AV.int .i64 ((w.p j).nd.hi 2), AV.int .i64 ((w.p j).nd.hi 3), AV.int .i64 ((w.p j).nd.hi 4), AV.int
 .i64 ((w.p j).nd.hi 5), AV.int .i64 ((w.p j).nd.hi 6), AV.int .i64 ((w.p j).nd.hi 7), AV.str ((w.p j).nd.l), AV.str ((w.p j).nd.r)]); (Cond (decide (x > 0)) (Asks (inR .i64 (bt + 1)) (Asks (inR .i64 (Int.tdiv x 2)) (EqI (Int.ofNat w.L) (Int.ofNat w.L) (EqN w.M w.M (zz1 ∧ EqI (bt + 1) bt' (EqI fc fc (true = true ∧ EqI (Int.tdiv x 2) x' (b = b ∧ Q)))))))) (EqI (Int.ofNat w.L) (Int.ofNat w.L) (EqN w.M w.M (zz1 ∧ EqI bt btN (EqI fc fc (true = true ∧ b = b ∧ True))))))) := by kernel_rfl
theorem law_vc (n : Nat) (X : Nat → Nat → Int) (m : Nat) (C : Nat → Nat → Int) (agg g top : Int) (w : LW) (fc : Int) (b : Bool) (bt : Int) (Q : AV → Prop) : (kbody [kSane, kMade10, kMade30, kProve] (lamT PP II [(9005, 18, s4 w 0 0 false, e4 w fc b), (27002, 18, s4b w fc b 0 (Int.ofNat w.L), e4b w fc b bt)]) 1000 4 [.fslice n 4 (xRow X), .agg [.int .i64 agg, .fslice m 3 (qRow C), .int .i64 g, .int .i64 top]] Hs (fun a H => Asks (Nat.ble 14 H.n) (Q a)) (fun _ _ => False)) = (let zz1 := (provedP (List.length (madeL (rowsX (xRow X)) (min n 40))) (fun i => getL (madeL (rowsX (xRow X)) (min n 40)) i) (Query.nw (madeQ agg m (rowsX (qRow C)) g top)) (rowsX (qRow (Query.C (madeQ agg m (rowsX (qRow C)) g top))))); let zz2 := (AV.fslice w.L 10 fun i => [AV.int .i64 (w.F i).t, AV.int .i64 (w.F i).s, AV.int .i64 (w.F i).v, AV.int .i64 (w.F i).w, AV.int .i64 (w.F i).o, AV.int .i64 (w.F i).p, AV.int
 .i64 (w.F i).d, AV.int .i64 (w.F i).l, AV.int .i64 (w.F i).h, AV.int .i64 (w.F i).b]); (Asks (hsIs (ABlk.cells [AV.fslice 5 2 opsRow] Access.ro) (ABlk.cells [AV.str [{ toBitVec := { toFin := ⟨48, Nat.mod_lt 48 (BitVec.ofNat._proof_1 8)⟩ } }], AV.str [{ toBitVec := { toFin := ⟨49, Nat.mod_lt 49 (BitVec.ofNat._proof_1 8)⟩ } }]] Access.ro) (ABlk.cells [AV.map (some 13)] Access.ro) (ABlk.map [(AV.any, AV.any), (AV.int .i64 1, AV.agg [AV.fn 317 [] []]), (AV.int .i64 2, AV.agg [AV.fn 319 [] []]), (AV.int .i64 3, AV.agg [AV.fn 321 [] []]), (AV.int .i64 4, AV.agg [AV.fn 323 [] []]), (AV.int .i64 5, AV.agg [AV.fn 324 [] []])])) (Asks (intsRows 4 n (xRow X)) (Asks (intsRows 3 m (qRow C) && inR .i64 agg && inR .i64 g && inR .i64 top) (Asks (isFacts (List.length (madeL (rowsX (xRow X)) (min n 40))) fun i => [AV.int .i64 (Fact.t (getL (madeL (rowsX (xRow X)) (min n 40)) i)), AV.int .i64 (Fact.s (getL
 (madeL (rowsX (xRow X)) (min n 40)) i)), AV.int .i64 (Fact.v (getL (madeL (rowsX (xRow X)) (min n 40)) i)), AV.int .i64 (Fact.w (getL (madeL (rowsX (xRow X)) (min n 40)) i)), AV.int .i64 (Fact.o (getL (madeL (rowsX (xRow X)) (min n 40)) i)), AV.int .i64 (Fact.p (getL (madeL (rowsX (xRow X)) (min n 40)) i)), AV.int .i64 (Fact.d (getL (madeL (rowsX (xRow X)) (min n 40)) i)), AV.int .i64 (Fact.l (getL (madeL (rowsX (xRow X)) (min n 40)) i)), AV.int .i64 (Fact.h (getL (madeL (rowsX (xRow X)) (min n 40)) i)), AV.int .i64 (Fact.b (getL (madeL (rowsX (xRow X)) (min n 40)) i))]) (Asks (intsRows 3 (Query.nw (madeQ agg m (rowsX (qRow C)) g top)) (qRow (Query.C (madeQ agg m (rowsX (qRow C)) g top))) && intsRows 1 (Query.ng (madeQ agg m (rowsX (qRow C)) g top)) (gRow (Query.G (madeQ agg m (rowsX (qRow C)) g top)))) (Asks (proveOk (List.length (madeL (rowsX (xRow X)) (min n 40))) fun i => getL (madeL
 (rowsX (xRow X)) (min n 40)) i) (Asks (opsB (Query.nw (madeQ agg m (rowsX (qRow C)) g top)) (rowsX (qRow (Query.C (madeQ agg m (rowsX (qRow C)) g top))))) (Asks (qok { nw := Query.nw (madeQ agg m (rowsX (qRow C)) g top), C := rowsX (qRow (Query.C (madeQ agg m (rowsX (qRow C)) g top))), ng := Query.ng (madeQ agg m (rowsX (qRow C)) g top), G := fun j => Query.G (madeQ agg m (rowsX (qRow C)) g top) j, a := Query.a (madeQ agg m (rowsX (qRow C)) g top), fl := Query.fl (madeQ agg m (rowsX (qRow C)) g top), nu := Query.nu (madeQ agg m (rowsX (qRow C)) g top), de := Query.de (madeQ agg m (rowsX (qRow C)) g top), top := Query.top (madeQ agg m (rowsX (qRow C)) g top) }) (Asks (inR .i64 (2 * Int.ofNat (List.length (madeL (rowsX (xRow X)) (min n 40))))) (Asks (inR .i64 (2 * Int.ofNat (List.length (madeL (rowsX (xRow X)) (min n 40))) - 1)) (Cond (decide (Int.ofNat (List.length zz1) > if 2 * Int.ofNat
 (List.length (madeL (rowsX (xRow X)) (min n 40))) - 1 > 0 then 2 * Int.ofNat (List.length (madeL (rowsX (xRow X)) (min n 40))) - 1 else 0)) (Q (AV.bool false)) (LoopAt PP II false (loopOf II 4 9005) 18 { t := .n (.n (.n (.n .e (some (AV.ptr 17 0 0 0)) .e) none (.n .e (some (AV.int .i64 0)) .e)) none (.n (.n .e (some (AV.int .i64 0)) .e) (some (AV.bool true)) .e)) none (.n .e none (.n (.n .e (some (AV.bool false)) .e) (some zz2) .e)), nt := 126, H := { n := 18, t := .n (.n .e none (.n (.n (.n .e (some (ABlk.cells [AV.int .i64 (Int.ofNat w.L), AV.fslice w.M 29 fun j => [AV.int .i64 (w.p j).k, AV.int .i64 ((w.p j).x.t), AV.int .i64 ((w.p j).x.s), AV.int .i64 ((w.p j).x.v), AV.int .i64 ((w.p j).x.w), AV.int .i64 ((w.p j).x.o), AV.int .i64 ((w.p j).x.p), AV.int .i64 ((w.p j).x.d), AV.int .i64 ((w.p j).x.l), AV.int .i64 ((w.p j).x.h), AV.int .i64 ((w.p j).x.b), AV.int .i64 ((w.p j).nd.lo 0), AV.int .i64 ((w.p j).nd.lo 1), AV.int .i64 ((w.p j).nd.lo 2), AV.int .i64 ((w.p j).nd.lo 3), AV.int .i64 ((w.p j).nd.lo 4), AV.int .i64 ((w.p j).nd.lo 5), AV.int .i64 ((w.p j).nd.lo 6), AV.int .i64 ((w.p j).nd.lo 7), AV.int .i64 ((w.p j).nd.hi 0), AV.int .i64 ((w.p j).nd.hi 1), AV.int .i64 ((w.p j).nd.hi 2), AV.int .i64 ((w.p j).nd.hi 3), AV.int .i64 ((w.p j).nd.hi 4), AV.int .i64 ((w.p j).nd.hi 5), AV.int .i64 ((w.p j).nd.hi 6), AV.int .i64 ((w.p j).nd.hi 7), AV.str ((w.p j).nd.l), AV.str ((w.p j).nd.r)]] (Access.ty 38))) .e) none .e) none .e)) none .e }, df := [] }
 (GE.one (AExit.x 0 { t := .n (.n (.n (.n .e (some (AV.ptr 17 0 0 0)) .e) none .e) none (.n (.n .e (some (AV.int .i64 fc)) .e) (some (AV.bool true)) .e)) none (.n .e none (.n (.n .e (some (AV.bool b)) .e) (some zz2) .e)), nt := 126, H := { n := 18, t := .n (.n .e none (.n (.n (.n .e (some (ABlk.cells [AV.int .i64 (Int.ofNat w.L), AV.fslice w.M 29 fun j => [AV.int .i64 (w.p j).k, AV.int .i64 ((w.p j).x.t), AV.int .i64 ((w.p j).x.s), AV.int .i64 ((w.p j).x.v), AV.int .i64 ((w.p j).x.w), AV.int .i64 ((w.p j).x.o), AV.int .i64 ((w.p j).x.p), AV.int .i64 ((w.p j).x.d), AV.int .i64 ((w.p j).x.l), AV.int .i64 ((w.p j).x.h), AV.int .i64 ((w.p j).x.b), AV.int .i64 ((w.p j).nd.lo 0), AV.int .i64 ((w.p j).nd.lo 1), AV.int .i64 ((w.p j).nd.lo 2), AV.int .i64 ((w.p j).nd.lo 3), AV.int .i64 ((w.p j).nd.lo 4), AV.int .i64 ((w.p j).nd.lo 5), AV.int .i64 ((w.p j).nd.lo 6), AV.int .i64 ((w.p j).nd.lo 7), AV.int .i64 ((w.p j).nd.hi 0), AV.int .i64 ((w.p j).nd.hi 1), AV.int .i64 ((w.p j).nd.hi 2), AV.int .i64 ((w.p j).nd.hi 3), AV.int .i64 ((w.p j).nd.hi 4), AV.int .i64 ((w.p j).nd.hi 5), AV.int .i64 ((w.p j).nd.hi 6), AV.int .i64 ((w.p j).nd.hi 7), AV.str ((w.p j).nd.l), AV.str ((w.p j).nd.r)]] (Access.ty 38))) .e) none .e) none .e)) none .e }, df := [] }))
 ∧ EqI (Int.ofNat (List.length (madeL (rowsX (xRow X)) (min n 40)))) (Int.ofNat w.L) (EqN (List.length zz1) w.M ((RowsLe (List.length zz1) (catR 0 (fun x => []) zz1) fun j => [AV.int .i64 (w.p j).k, AV.int .i64 ((w.p j).x.t), AV.int .i64 ((w.p j).x.s), AV.int .i64 ((w.p j).x.v), AV.int .i64 ((w.p j).x.w), AV.int .i64 ((w.p j).x.o), AV.int .i64 ((w.p j).x.p), AV.int .i64 ((w.p j).x.d), AV.int .i64 ((w.p j).x.l), AV.int .i64 ((w.p j).x.h), AV.int .i64 ((w.p j).x.b), AV.int .i64 ((w.p j).nd.lo 0), AV.int .i64 ((w.p j).nd.lo 1), AV.int .i64 ((w.p j).nd.lo 2), AV.int .i64 ((w.p j).nd.lo 3), AV.int .i64 ((w.p j).nd.lo 4), AV.int .i64 ((w.p j).nd.lo 5), AV.int .i64 ((w.p j).nd.lo 6), AV.int .i64 ((w.p j).nd.lo 7), AV.int .i64 ((w.p j).nd.hi 0), AV.int .i64 ((w.p j).nd.hi 1), AV.int .i64 ((w.p j).nd.hi 2), AV.int .i64 ((w.p j).nd.hi 3), AV.int .i64 ((w.p j).nd.hi 4), AV.int .i64 ((w.p j).nd.hi
 5), AV.int .i64 ((w.p j).nd.hi 6), AV.int .i64 ((w.p j).nd.hi 7), AV.str ((w.p j).nd.l), AV.str ((w.p j).nd.r)]) ∧ true = true ∧ false = false ∧ EqN (List.length (madeL (rowsX (xRow X)) (min n 40))) w.L ((RowsLe (List.length (madeL (rowsX (xRow X)) (min n 40))) (fun i => [AV.int .i64 (Fact.t (getL (madeL (rowsX (xRow X)) (min n 40)) i)), AV.int .i64 (Fact.s (getL (madeL (rowsX (xRow X)) (min n 40)) i)), AV.int .i64 (Fact.v (getL (madeL (rowsX (xRow X)) (min n 40)) i)), AV.int .i64 (Fact.w (getL (madeL (rowsX (xRow X)) (min n 40)) i)), AV.int .i64 (Fact.o (getL (madeL (rowsX (xRow X)) (min n 40)) i)), AV.int .i64 (Fact.p (getL (madeL (rowsX (xRow X)) (min n 40)) i)), AV.int .i64 (Fact.d (getL (madeL (rowsX (xRow X)) (min n 40)) i)), AV.int .i64 (Fact.l (getL (madeL (rowsX (xRow X)) (min n 40)) i)), AV.int .i64 (Fact.h (getL (madeL (rowsX (xRow X)) (min n 40)) i)), AV.int .i64 (Fact.b
 (getL (madeL (rowsX (xRow X)) (min n 40)) i))]) fun i => [AV.int .i64 (w.F i).t, AV.int .i64 (w.F i).s, AV.int .i64 (w.F i).v, AV.int .i64 (w.F i).w, AV.int .i64 (w.F i).o, AV.int .i64 (w.F i).p, AV.int .i64 (w.F i).d, AV.int .i64 (w.F i).l, AV.int .i64 (w.F i).h, AV.int .i64 (w.F i).b]) ∧ LoopAt PP II false (loopOf II 4 27002) 18 { t := .n (.n (.n (.n (.n .e (some (AV.int .i64 0)) .e) (some (AV.ptr 17 0 0 0)) .e) none .e) none (.n (.n .e (some (AV.int .i64 fc)) .e) (some (AV.bool true)) .e)) none (.n (.n (.n (.n .e (some (AV.int .i64 (Int.ofNat w.L))) .e) none .e) none .e) none (.n (.n .e (some (AV.bool b)) .e) none .e)), nt := 126, H := { n := 18, t := .n (.n .e none (.n (.n (.n .e (some (ABlk.cells [AV.int .i64 (Int.ofNat w.L), AV.fslice w.M 29 fun j => [AV.int .i64 (w.p j).k, AV.int .i64 ((w.p j).x.t), AV.int .i64 ((w.p j).x.s), AV.int .i64 ((w.p j).x.v), AV.int .i64 ((w.p j).x.w), AV.int .i64 ((w.p j).x.o), AV.int .i64 ((w.p j).x.p), AV.int .i64 ((w.p j).x.d), AV.int .i64 ((w.p j).x.l), AV.int .i64 ((w.p j).x.h), AV.int .i64 ((w.p j).x.b), AV.int .i64 ((w.p j).nd.lo 0), AV.int .i64 ((w.p j).nd.lo 1), AV.int .i64 ((w.p j).nd.lo 2), AV.int .i64 ((w.p j).nd.lo 3), AV.int .i64 ((w.p j).nd.lo 4), AV.int .i64 ((w.p j).nd.lo 5), AV.int .i64 ((w.p j).nd.lo 6), AV.int .i64 ((w.p j).nd.lo 7), AV.int .i64 ((w.p j).nd.hi 0), AV.int .i64 ((w.p j).nd.hi 1), AV.int .i64 ((w.p j).nd.hi 2), AV.int .i64 ((w.p j).nd.hi 3), AV.int .i64 ((w.p j).nd.hi 4), AV.int .i64 ((w.p j).nd.hi 5), AV.int .i64 ((w.p j).nd.hi 6), AV.int .i64 ((w.p j).nd.hi 7), AV.str ((w.p j).nd.l), AV.str ((w.p j).nd.r)]] (Access.ty 38))) .e) none .e) none .e)) none .e }, df := [] }
 (GE.one (AExit.x 4 { t := .n (.n (.n (.n (.n .e (some (AV.int .i64 bt)) .e) (some (AV.ptr 17 0 0 0)) .e) none .e) none (.n (.n .e (some (AV.int .i64 fc)) .e) (some (AV.bool true)) .e)) none (.n .e none (.n (.n .e (some (AV.bool b)) .e) none .e)), nt := 126, H := { n := 18, t := .n (.n .e none (.n (.n (.n .e (some (ABlk.cells [AV.int .i64 (Int.ofNat w.L), AV.fslice w.M 29 fun j => [AV.int .i64 (w.p j).k, AV.int .i64 ((w.p j).x.t), AV.int .i64 ((w.p j).x.s), AV.int .i64 ((w.p j).x.v), AV.int .i64 ((w.p j).x.w), AV.int .i64 ((w.p j).x.o), AV.int .i64 ((w.p j).x.p), AV.int .i64 ((w.p j).x.d), AV.int .i64 ((w.p j).x.l), AV.int .i64 ((w.p j).x.h), AV.int .i64 ((w.p j).x.b), AV.int .i64 ((w.p j).nd.lo 0), AV.int .i64 ((w.p j).nd.lo 1), AV.int .i64 ((w.p j).nd.lo 2), AV.int .i64 ((w.p j).nd.lo 3), AV.int .i64 ((w.p j).nd.lo 4), AV.int .i64 ((w.p j).nd.lo 5), AV.int .i64 ((w.p j).nd.lo 6), AV.int .i64 ((w.p j).nd.lo 7), AV.int .i64 ((w.p j).nd.hi 0), AV.int .i64 ((w.p j).nd.hi 1), AV.int .i64 ((w.p j).nd.hi 2), AV.int .i64 ((w.p j).nd.hi 3), AV.int .i64 ((w.p j).nd.hi 4), AV.int .i64 ((w.p j).nd.hi 5), AV.int .i64 ((w.p j).nd.hi 6), AV.int .i64 ((w.p j).nd.hi 7), AV.str ((w.p j).nd.l), AV.str ((w.p j).nd.r)]] (Access.ty 38))) .e) none .e) none .e)) none .e }, df := [] }))
 ∧ EqI (Int.ofNat w.L) (Int.ofNat w.L) (EqN w.M w.M ((RowsLe w.M (fun j => [AV.int .i64 (w.p j).k, AV.int .i64 ((w.p j).x.t), AV.int .i64 ((w.p j).x.s), AV.int .i64 ((w.p j).x.v), AV.int .i64 ((w.p j).x.w), AV.int .i64 ((w.p j).x.o), AV.int .i64 ((w.p j).x.p), AV.int .i64 ((w.p j).x.d), AV.int .i64 ((w.p j).x.l), AV.int .i64 ((w.p j).x.h), AV.int .i64 ((w.p j).x.b), AV.int .i64 ((w.p j).nd.lo 0), AV.int .i64 ((w.p j).nd.lo 1), AV.int .i64 ((w.p j).nd.lo 2), AV.int .i64 ((w.p j).nd.lo 3), AV.int .i64 ((w.p j).nd.lo 4), AV.int .i64 ((w.p j).nd.lo 5), AV.int .i64 ((w.p j).nd.lo 6), AV.int .i64 ((w.p j).nd.lo 7), AV.int .i64 ((w.p j).nd.hi 0), AV.int .i64 ((w.p j).nd.hi 1), AV.int .i64 ((w.p j).nd.hi 2), AV.int .i64 ((w.p j).nd.hi 3), AV.int .i64 ((w.p j).nd.hi 4), AV.int .i64 ((w.p j).nd.hi 5), AV.int .i64 ((w.p j).nd.hi 6), AV.int .i64 ((w.p j).nd.hi 7), AV.str ((w.p j).nd.l), AV.str ((w.p
 j).nd.r)]) fun j => [AV.int .i64 (w.p j).k, AV.int .i64 ((w.p j).x.t), AV.int .i64 ((w.p j).x.s), AV.int .i64 ((w.p j).x.v), AV.int .i64 ((w.p j).x.w), AV.int .i64 ((w.p j).x.o), AV.int .i64 ((w.p j).x.p), AV.int .i64 ((w.p j).x.d), AV.int .i64 ((w.p j).x.l), AV.int .i64 ((w.p j).x.h), AV.int .i64 ((w.p j).x.b), AV.int .i64 ((w.p j).nd.lo 0), AV.int .i64 ((w.p j).nd.lo 1), AV.int .i64 ((w.p j).nd.lo 2), AV.int .i64 ((w.p j).nd.lo 3), AV.int .i64 ((w.p j).nd.lo 4), AV.int .i64 ((w.p j).nd.lo 5), AV.int .i64 ((w.p j).nd.lo 6), AV.int .i64 ((w.p j).nd.lo 7), AV.int .i64 ((w.p j).nd.hi 0), AV.int .i64 ((w.p j).nd.hi 1), AV.int .i64 ((w.p j).nd.hi 2), AV.int .i64 ((w.p j).nd.hi 3), AV.int .i64 ((w.p j).nd.hi 4), AV.int .i64 ((w.p j).nd.hi 5), AV.int .i64 ((w.p j).nd.hi 6), AV.int .i64 ((w.p j).nd.hi 7), AV.str ((w.p j).nd.l), AV.str ((w.p j).nd.r)]) ∧ EqI fc fc (true = true ∧ EqI (Int.ofNat
 w.L) (Int.ofNat w.L) (b = b ∧ Cond b (Q (AV.bool true)) (Asks (inR .i64 (2 * fc)) (Asks (inR .i64 (2 * fc * bt)) (Asks (inR .i64 (fc + 2 * fc * bt)) (Q (AV.bool (decide (Int.ofNat w.M ≤ if fc + 2 * fc * bt > 1 then fc + 2 * fc * bt else 1))))))))))))))))))))))))))) := by kernel_rfl
end Go.Sx
end
section
set_option maxRecDepth 1000000
namespace Go.Sx
open Go Small
def KindsOf (w : LW) (ks : List Int) : Prop := ks.length = w.M ∧ (∀ j, j < w.M → (w.p j).k = kAt ks j) ∧ w.M ≤ 1000000
theorem rowsP (w : LW) : RowsLe w.M (fun j => pieceAV (w.p j)) (fun j => pieceAV (w.p j)) := fun j _ σ => piece_le (w.p j) σ
theorem rowsF (w : LW) : RowsLe w.L (fun i => factAV (w.F i)) (fun i => factAV (w.F i)) := fun i _ σ => factAV_le σ (w.F i)
theorem drop_at {ks : List Int} {k : Nat} (h : k < ks.length) : ks.drop k = kAt ks k :: ks.drop (k + 1) := by
  rw [List.drop_eq_getElem_cons h]
  unfold kAt
  rw [List.getD_eq_getElem?_getD, List.getElem?_eq_getElem h]; rfl
theorem eat_stop (ks : List Int) (nd : Int) (f : Nat) (h : ¬ nd > 0) : eat ks nd f = f := by
  cases ks with
  | nil => rfl
  | cons k ks => unfold eat; rw [decide_eq_false h]; rfl
theorem eat_go {ks : List Int} {k : Nat} {nd : Int} {f : Nat} (h : k < ks.length) (hn : nd > 0) : eat (ks.drop k) nd f = eat (ks.drop (k + 1)) (bif decide (kAt ks k = 1) then nd - 1 + 2 else nd - 1) (bif decide (kAt ks k = 2) then f + 1 else f) := by
  rw [drop_at h]
  conv => lhs; unfold eat
  rw [decide_eq_true hn]; rfl
def EatJ (w : LW) (ks : List Int) (r : Nat) (x : Int × Int × Int) : Prop := ∃ k f0 : Nat, k ≤ w.M ∧ x.2.2 = (k : Int) ∧ x.1 = (f0 : Int) ∧ f0 ≤ k ∧ 0 ≤ x.2.1 ∧ x.2.1 ≤ (k : Int) + 2 ∧ eat (ks.drop k) x.2.1 f0 = eat (ks.drop (r + 1)) 2 0
def eatNx (w : LW) (x : Int × Int × Int) : Int × Int × Int := (bif decide ((w.p (Int.toNat x.2.2)).k = 2) then x.1 + 1 else x.1, bif decide ((w.p (Int.toNat x.2.2)).k = 1) then x.2.1 - 1 + 2 else x.2.1 - 1, x.2.2 + 1)
theorem eat_next {w : LW} {ks : List Int} (hk : KindsOf w ks) {r : Nat} {f nd j : Int} (h : EatJ w ks r (f, nd, j)) (h1 : j < (w.M : Int)) (h2 : nd > 0) : EatJ w ks r (eatNx w (f, nd, j)) := by
  obtain ⟨k, f0, a1, a2, a3, a4, a5, a6, a7⟩ := h
  simp only at a2 a3 a5 a6 a7
  have hk1 : k < w.M := by omega
  have ej : Int.toNat j = k := by omega
  have eK := hk.2.1 k hk1
  rw [eat_go (by rw [hk.1]; exact hk1) h2] at a7
  refine ⟨k + 1, bif decide (kAt ks k = 2) then f0 + 1 else f0, hk1, ?_, ?_, ?_, ?_, ?_, ?_⟩
  · show j + 1 = _; omega
  · show (bif decide ((w.p (Int.toNat j)).k = 2) then f + 1 else f) = _
    rw [ej, eK]
    cases decide (kAt ks k = 2) with
    | true => show f + 1 = ((f0 + 1 : Nat) : Int); omega
    | false => exact a3
  · cases decide (kAt ks k = 2) with
    | true => show f0 + 1 ≤ k + 1; omega
    | false => show f0 ≤ k + 1; omega
  · show 0 ≤ (bif decide ((w.p (Int.toNat j)).k = 1) then nd - 1 + 2 else nd - 1)
    cases decide ((w.p (Int.toNat j)).k = 1) with
    | true => show 0 ≤ nd - 1 + 2; omega
    | false => show 0 ≤ nd - 1; omega
  · show (bif decide ((w.p (Int.toNat j)).k = 1) then nd - 1 + 2 else nd - 1) ≤ _
    cases decide ((w.p (Int.toNat j)).k = 1) with
    | true => show nd - 1 + 2 ≤ _; omega
    | false => show nd - 1 ≤ _; omega
  · show eat (ks.drop (k + 1)) (bif decide ((w.p (Int.toNat j)).k = 1) then nd - 1 + 2 else nd - 1) _ = _
    rw [ej, eK]; exact a7
theorem eat_loop {w : LW} {ks : List Int} (hk : KindsOf w ks) {i fc : Int} {b : Bool} {r : Nat} (hr : r < w.M) (hi : i = (r : Int)) : LoopAt PP II false (loopOf II 4 17009) 18 (s4i w i fc b 0 2 (i + 1)) (e4i w i fc b (eat (ks.drop (r + 1)) 2 0 : Nat)) :=
  LoopAt.of (ι := Int × Int × Int) hII [] (lamT_ok PP II []) 1000 18 (EatJ w ks r) (fun x => s4i w i fc b x.1 x.2.1 x.2.2) (fun _ => e4i w i fc b (eat (ks.drop (r + 1)) 2 0 : Nat)) (fun x => ((w.M : Int) - x.2.2).toNat) (eatNx w) (0, 2, i + 1) rfl
    ⟨r + 1, 0, hr, by show i + 1 = _; omega, rfl, Nat.zero_le _, by show (0 : Int) ≤ 2; omega, by show (2 : Int) ≤ _; omega, rfl⟩ fun x hx => by
    obtain ⟨f, nd, j⟩ := x
    have hx0 := hx
    obtain ⟨k, f0, a1, a2, a3, a4, a5, a6, a7⟩ := hx
    simp only at a2 a3 a5 a6 a7
    have hM := hk.2.2
    have eM : Int.ofNat w.M = (w.M : Int) := rfl
    have hp := rowsP w
    have hF := rowsF w
    refine (eat_step w i fc b f nd j _ _ _ _ _).mpr ?_
    rw [eM]
    have i1 : inR .i64 (nd - 1) = true := inR_small (by omega) (by omega)
    have i2 : inR .i64 (nd - 1 + 2) = true := inR_small (by omega) (by omega)
    have i3 : inR .i64 (f + 1) = true := inR_small (by omega) (by omega)
    have i4 : inR .i64 (j + 1) = true := inR_small (by omega) (by omega)
    refine Cond.mk (fun h => ?_) fun h => ?_
    · have h := of_decide_eq_true h
      have ask : (decide (0 ≤ j) && decide (j < (w.M : Int))) = true := by rw [decide_eq_true (by omega), decide_eq_true h]; rfl
      refine Cond.mk (fun h2 => ?_) fun h2 => ?_
      · have h2 := of_decide_eq_true h2
        have hn := eat_next hk hx0 h h2
        have fin : EatJ w ks r (eatNx w (f, nd, j)) ∧ ((w.M : Int) - (eatNx w (f, nd, j)).2.2).toNat < ((w.M : Int) - j).toNat ∧ (e4i w i fc b (eat (ks.drop (r + 1)) 2 0 : Nat)).pick = (e4i w i fc b (eat (ks.drop (r + 1)) 2 0 : Nat)).pick := ⟨hn, by show ((w.M : Int) - (j + 1)).toNat < _; omega, rfl⟩
        refine Asks.mk' _ _ i1 (Asks.mk' _ _ ask (Cond.mk (fun c1 => ?_) fun c1 => ?_))
        · refine Asks.mk' _ _ i2 (Asks.mk' _ _ ask (Cond.mk (fun c2 => ?_) fun c2 => ?_))
          · have c1 := of_decide_eq_true c1
            have c2 := of_decide_eq_true c2
            omega
          · refine Asks.mk' _ _ i4 (EqI.mk rfl (EqN.mk rfl ⟨hp, EqI.mk rfl (EqI.mk rfl ⟨rfl, EqI.mk ?_ (EqI.mk ?_ ⟨rfl, EqN.mk rfl ⟨hF, EqI.mk rfl fin⟩⟩)⟩)⟩))
            · show _ = (bif decide ((w.p (Int.toNat j)).k = 1) then nd - 1 + 2 else nd - 1)
              rw [c1]; rfl
            · show _ = (bif decide ((w.p (Int.toNat j)).k = 2) then f + 1 else f)
              rw [c2]; rfl
        · refine Asks.mk' _ _ ask (Cond.mk (fun c2 => ?_) fun c2 => ?_)
          · refine Asks.mk' _ _ i3 (Asks.mk' _ _ i4 (EqI.mk rfl (EqN.mk rfl ⟨hp, EqI.mk rfl (EqI.mk rfl ⟨rfl, EqI.mk ?_ (EqI.mk ?_ ⟨rfl, EqN.mk rfl ⟨hF, EqI.mk rfl fin⟩⟩)⟩)⟩)))
            · show _ = (bif decide ((w.p (Int.toNat j)).k = 1) then nd - 1 + 2 else nd - 1)
              rw [c1]; rfl
            · show _ = (bif decide ((w.p (Int.toNat j)).k = 2) then f + 1 else f)
              rw [c2]; rfl
          · refine Asks.mk' _ _ i4 (EqI.mk rfl (EqN.mk rfl ⟨hp, EqI.mk rfl (EqI.mk rfl ⟨rfl, EqI.mk ?_ (EqI.mk ?_ ⟨rfl, EqN.mk rfl ⟨hF, EqI.mk rfl fin⟩⟩)⟩)⟩))
            · show _ = (bif decide ((w.p (Int.toNat j)).k = 1) then nd - 1 + 2 else nd - 1)
              rw [c1]; rfl
            · show _ = (bif decide ((w.p (Int.toNat j)).k = 2) then f + 1 else f)
              rw [c2]; rfl
      · have h2 := of_decide_eq_false h2
        rw [eat_stop _ _ _ h2] at a7
        exact EqI.mk rfl (EqN.mk rfl ⟨hp, EqI.mk rfl (EqI.mk rfl ⟨rfl, EqI.mk (by rw [a3, a7]) ⟨rfl, EqN.mk rfl ⟨hF, trivial⟩⟩⟩)⟩)
    · have h := of_decide_eq_false h
      have : k = w.M := by omega
      rw [List.drop_eq_nil_of_le (by rw [hk.1]; omega)] at a7
      have a7 : f0 = eat (ks.drop (r + 1)) 2 0 := a7
      exact EqI.mk rfl (EqN.mk rfl ⟨hp, EqI.mk rfl (EqI.mk rfl ⟨rfl, EqI.mk (by rw [a3, ← a7]) ⟨rfl, EqN.mk rfl ⟨hF, trivial⟩⟩⟩)⟩)
end Go.Sx
end
section
set_option maxRecDepth 1000000
namespace Go.Sx
open Go Small
theorem factsTo_le (ks : List Int) : ∀ i, factsTo ks i ≤ i
  | 0 => Nat.le_refl _
  | i + 1 => by
    have := factsTo_le ks i
    unfold factsTo
    cases decide (kAt ks i = 2) with
    | true => rw [cond_true]; omega
    | false => rw [cond_false]; omega
def eatN (ks : List Int) (i : Int) : Int := (eat (ks.drop (Int.toNat i + 1)) 2 0 : Nat)
noncomputable def pieceT (w : LW) (ks : List Int) (x : Int × Int × Bool) : LTab := [(17009, 18, s4i w x.1 x.2.1 x.2.2 0 2 (x.1 + 1), e4i w x.1 x.2.1 x.2.2 (eatN ks x.1))]
def PiecesJ (w : LW) (ks : List Int) (x : Int × Int × Bool) : Prop := ∃ k : Nat, k ≤ w.M ∧ x.1 = (k : Int) ∧ x.2.1 = (factsTo ks k : Nat) ∧ x.2.2 = idleTo ks k
theorem beq_dec (n : Nat) : decide ((n : Int) = 0) = Nat.beq n 0 := by
  cases n with
  | zero => rfl
  | succ n => exact decide_eq_false (by omega)
theorem pieces_loop {w : LW} {ks : List Int} (hk : KindsOf w ks) : LoopAt PP II false (loopOf II 4 9005) 18 (s4 w 0 0 false) (e4 w (factsTo ks w.M : Nat) (idleTo ks w.M)) :=
  LoopAt.ofT (ι := Int × Int × Bool) hII [] 1000 (pieceT w ks) 18 (PiecesJ w ks) (fun x => s4 w x.1 x.2.1 x.2.2) (fun _ => e4 w (factsTo ks w.M : Nat) (idleTo ks w.M)) (fun x => ((w.M : Int) - x.1).toNat) (fun x => (x.1 + 1, (factsTo ks (Int.toNat x.1 + 1) : Nat), idleTo ks (Int.toNat x.1 + 1))) (0, 0, false) rfl
    ⟨0, Nat.zero_le _, rfl, rfl, rfl⟩ fun x hx => by
    obtain ⟨i, fc, b⟩ := x
    obtain ⟨k, a1, a2, a3, a4⟩ := hx
    simp only at a2 a3 a4
    have hM := hk.2.2
    have eM : Int.ofNat w.M = (w.M : Int) := rfl
    have hp := rowsP w
    have hF := rowsF w
    have fl := factsTo_le ks k
    refine (pieces_step w i fc b (eatN ks i) _ _ _ _ _ _).mpr ?_
    rw [eM]
    have ek : Int.toNat i = k := by omega
    have i3 : inR .i64 (fc + 1) = true := inR_small (by omega) (by omega)
    have i4 : inR .i64 (i + 1) = true := inR_small (by omega) (by omega)
    refine Cond.mk (fun h => ?_) fun h => ?_
    · have h := of_decide_eq_true h
      have hk1 : k < w.M := by omega
      have eK := hk.2.1 k hk1
      have ask : (decide (0 ≤ i) && decide (i < (w.M : Int))) = true := by rw [decide_eq_true (by omega), decide_eq_true h]; rfl
      have fin : PiecesJ w ks (i + 1, (factsTo ks (Int.toNat i + 1) : Nat), idleTo ks (Int.toNat i + 1)) ∧ ((w.M : Int) - (i + 1)).toNat < ((w.M : Int) - i).toNat ∧ (e4 w (factsTo ks w.M : Nat) (idleTo ks w.M)).pick = (e4 w (factsTo ks w.M : Nat) (idleTo ks w.M)).pick :=
        ⟨⟨k + 1, hk1, by show i + 1 = _; omega, by rw [ek], by rw [ek]⟩, by omega, rfl⟩
      have lp := eat_loop hk (i := i) (fc := fc) (b := b) hk1 a2
      have eN : ((eat (ks.drop (k + 1)) 2 0 : Nat) : Int) = eatN ks i := by unfold eatN; rw [ek]
      rw [eN] at lp
      refine Asks.mk' _ _ ask (Cond.mk (fun c2 => ?_) fun c2 => ?_)
      · refine Asks.mk' _ _ i3 (Asks.mk' _ _ ask (Cond.mk (fun c1 => ?_) fun c1 => ?_))
        · refine Asks.mk' _ _ i4 (EqI.mk rfl (EqN.mk rfl ⟨hp, EqI.mk rfl (EqI.mk ?_ ⟨rfl, ?_, EqN.mk rfl ⟨hF, fin⟩⟩)⟩))
          · show fc + 1 = ((factsTo ks (Int.toNat i + 1) : Nat) : Int)
            rw [ek]
            have c2 : decide (kAt ks k = 2) = true := by rw [← eK, ← ek]; exact c2
            show _ = ((factsTo ks k + (bif decide (kAt ks k = 2) then 1 else 0) : Nat) : Int)
            rw [c2, cond_true]; omega
          · show b = idleTo ks (Int.toNat i + 1)
            rw [ek]
            have c1 : (!decide (kAt ks k = 1)) = true := by rw [← eK, ← ek]; exact c1
            rw [Bool.not_eq_true'] at c1
            show _ = (idleTo ks k || (decide (kAt ks k = 1) && Nat.beq (eat (ks.drop (k + 1)) 2 0) 0))
            rw [c1, a4, Bool.false_and, Bool.or_false]
        · exfalso
          have c2 := of_decide_eq_true c2
          have c1 : (!decide ((w.p (Int.toNat i)).k = 1)) = false := c1
          rw [c2] at c1
          cases c1
      · refine Asks.mk' _ _ ask (Cond.mk (fun c1 => ?_) fun c1 => ?_)
        · refine Asks.mk' _ _ i4 (EqI.mk rfl (EqN.mk rfl ⟨hp, EqI.mk rfl (EqI.mk ?_ ⟨rfl, ?_, EqN.mk rfl ⟨hF, fin⟩⟩)⟩))
          · show fc = ((factsTo ks (Int.toNat i + 1) : Nat) : Int)
            rw [ek]
            have c2 : decide (kAt ks k = 2) = false := by rw [← eK, ← ek]; exact c2
            show _ = ((factsTo ks k + (bif decide (kAt ks k = 2) then 1 else 0) : Nat) : Int)
            rw [c2, cond_false]; omega
          · show b = idleTo ks (Int.toNat i + 1)
            rw [ek]
            have c1 : (!decide (kAt ks k = 1)) = true := by rw [← eK, ← ek]; exact c1
            rw [Bool.not_eq_true'] at c1
            show _ = (idleTo ks k || (decide (kAt ks k = 1) && Nat.beq (eat (ks.drop (k + 1)) 2 0) 0))
            rw [c1, a4, Bool.false_and, Bool.or_false]
        · have c1' : decide (kAt ks k = 1) = true := by
            rw [Bool.not_eq_false'] at c1
            rw [← eK, ← ek]; exact c1
          have hf : fc = ((factsTo ks (Int.toNat i + 1) : Nat) : Int) := by
            rw [ek]
            have c2 : decide (kAt ks k = 2) = false := by rw [← eK, ← ek]; exact c2
            show _ = ((factsTo ks k + (bif decide (kAt ks k = 2) then 1 else 0) : Nat) : Int)
            rw [c2, cond_false]; omega
          have hb : (b || decide (eatN ks i = 0)) = idleTo ks (Int.toNat i + 1) := by
            rw [ek]
            show _ = (idleTo ks k || (decide (kAt ks k = 1) && Nat.beq (eat (ks.drop (k + 1)) 2 0) 0))
            rw [c1', a4, Bool.true_and]
            unfold eatN
            rw [ek, beq_dec]
          refine Asks.mk' _ _ i4 ⟨lp, EqI.mk rfl (EqN.mk rfl ⟨hp, EqI.mk rfl (EqI.mk rfl ⟨rfl, rfl, EqN.mk rfl ⟨hF, EqI.mk rfl (Cond.mk (fun hb1 => ?_) fun hb1 => ?_)⟩⟩)⟩)⟩
          · rw [hb1, Bool.true_or] at hb
            exact Asks.mk' _ _ i4 (EqI.mk rfl (EqN.mk rfl ⟨hp, EqI.mk rfl (EqI.mk hf ⟨rfl, hb, EqN.mk rfl ⟨hF, fin⟩⟩)⟩))
          · rw [hb1, Bool.false_or] at hb
            exact Asks.mk' _ _ i4 (EqI.mk rfl (EqN.mk rfl ⟨hp, EqI.mk rfl (EqI.mk hf ⟨rfl, hb, EqN.mk rfl ⟨hF, fin⟩⟩)⟩))
    · have h := of_decide_eq_false h
      have : k = w.M := by omega
      subst this
      exact EqI.mk rfl (EqN.mk rfl ⟨hp, EqI.mk a3 ⟨rfl, a4, EqN.mk rfl ⟨hF, trivial⟩⟩⟩)
theorem bits_pos {n : Nat} (c : Nat) (h : Nat.beq n 0 = false) : Small.bits (c + 1) n = 1 + Small.bits c (n / 2) := by
  show (bif Nat.beq n 0 then 0 else 1 + Small.bits c (n / 2)) = _
  rw [h, cond_false]
def BitsJ (w : LW) (y : Int × Int) : Prop := ∃ c n b0 : Nat, n ≤ c ∧ y.1 = (b0 : Int) ∧ y.2 = (n : Int) ∧ b0 + n ≤ w.L ∧ b0 + Small.bits c n = Small.bits w.L w.L
theorem bits_loop {w : LW} (hL : w.L ≤ 1000000) {fc : Int} {b : Bool} : LoopAt PP II false (loopOf II 4 27002) 18 (s4b w fc b 0 (Int.ofNat w.L)) (e4b w fc b (Small.bits w.L w.L : Nat)) :=
  LoopAt.of (ι := Int × Int) hII [] (lamT_ok PP II []) 1000 18 (BitsJ w) (fun y => s4b w fc b y.1 y.2) (fun _ => e4b w fc b (Small.bits w.L w.L : Nat)) (fun y => y.2.toNat) (fun y => (y.1 + 1, Int.tdiv y.2 2)) (0, Int.ofNat w.L) rfl
    ⟨w.L, w.L, 0, Nat.le_refl _, rfl, rfl, by omega, by omega⟩ fun y hy => by
    obtain ⟨bt, x⟩ := y
    obtain ⟨c, n, b0, a1, a2, a3, a4, a5⟩ := hy
    simp only at a2 a3
    have hp := rowsP w
    refine (bits_step w fc b bt x _ _ _ _).mpr ?_
    have e2 : Int.tdiv x 2 = ((n / 2 : Nat) : Int) := by rw [a3]; rfl
    refine Cond.mk (fun h => ?_) fun h => ?_
    · have h := of_decide_eq_true h
      have hn : 0 < n := by omega
      obtain ⟨c, rfl⟩ : ∃ c', c = c' + 1 := ⟨c - 1, by omega⟩
      have hb : Nat.beq n 0 = false := by
        cases hb : Nat.beq n 0 with
        | true => have := Nat.eq_of_beq_eq_true hb; omega
        | false => rfl
      rw [bits_pos c hb] at a5
      refine Asks.mk' _ _ (inR_small (by omega) (by omega)) (Asks.mk' _ _ (by rw [e2]; exact inR_small (by omega) (by omega)) ?_)
      refine EqI.mk rfl (EqN.mk rfl ⟨hp, EqI.mk rfl (EqI.mk rfl ⟨rfl, EqI.mk rfl ⟨rfl, ⟨c, n / 2, b0 + 1, by omega, by show bt + 1 = _; omega, e2, by omega, by omega⟩, ?_, rfl⟩⟩)⟩)
      show (Int.tdiv x 2).toNat < x.toNat
      rw [e2]; omega
    · have h := of_decide_eq_false h
      have : n = 0 := by omega
      subst this
      have e0 : Small.bits c 0 = 0 := by cases c <;> rfl
      rw [e0] at a5
      have a5 : b0 = Small.bits w.L w.L := a5
      have e1 : bt = ((Small.bits w.L w.L : Nat) : Int) := by rw [a2, a5]
      repeat' (first | with_reducible exact trivial | with_reducible rfl | exact hp | exact e1 | with_reducible refine EqN.mk ?_ ?_ | with_reducible refine EqI.mk ?_ ?_ | with_reducible refine And.intro ?_ ?_)
end Go.Sx
end
