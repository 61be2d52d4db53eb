/- CertifyRoot is proved, part 40. -/
import Derived.Test.YtleifmkjbmhlpaaGreatDoorX39
import Derived.Test.YtleifmkjbmhlpaaGreatDoorX37
import Derived.Test.YtleifmkjbmhlpaaGreatDoorX38
import Derived.Test.YtleifmkjbmhlpaaGreatDoorCards
import Derived.Test.YtleifmkjbmhlpaaGreatDoorTie
import Derived.LaidMore
import Derived.LaidHandle
import Derived.OpenShut
import Derived.Deep.DeepHandedRow
import Derived.Deep.Slices
set_option linter.unusedVariables false
set_option linter.unusedSimpArgs false
set_option linter.unusedSectionVars false
section
set_option maxRecDepth 1000000
namespace Go.Sx
open Go
def envOf (W : World) (b : Nat) : Env where
  pl l := if l < 12 then some (l, match W.heap[l]? with | some (.cells cs _ _) => cs.size | _ => 0) else if l = 13 then some (b, 0) else none
  fz k := match W.heap[k]? with | some (.cells cs _ _) => some cs.toList | _ => none
theorem envOf_fz (W : World) (b : Nat) : FzAll (envOf W b) W := fun k cs el fr h => by
  show (match W.heap[k]? with | some (.cells cs _ _) => some cs.toList | _ => none) = _
  rw [h]
def ctxOf (W : World) (b : Nat) : Ctx where
  w0 := W
  Z k := k < W.heap.size
  G := 12
  X _ := False
  E _ := False
  ρ0 := envOf W b
theorem Hs_rw (l : Nat) : (Hs.get l).rw = false := Hs_live (P := fun _ b => b.rw = false) rfl rfl rfl rfl rfl (fun _ => rfl) l
theorem cells_ro {ρ : Env} {W : World} (hρ : FzAll ρ W) {g : Nat} {cs : Array Value} {el : TypeId} {fr : Nat × Nat} {avs : List AV} (h : W.heap[g]? = some (.cells cs el fr)) (hp : ρ g = some (g, cs.size)) (hv : VRs ρ avs cs.toList) (h1 : ∀ v ∈ cs.toList, v.oneCell' = true) : CellsRel ρ W (ρ g) avs .ro := by
  refine .inr ⟨g, cs.size, cs.toList, [], el, fr, hp, ?_, by simp, hv, ⟨(fun e => by cases e), (fun _ e => by cases e)⟩, h1, fun _ => ?_⟩
  · rw [List.append_nil]; exact h
  · rw [List.append_nil]; exact hρ g cs el fr h
theorem rel_Hs {W : World} {b : Nat} (ops : ∃ v el fr, W.heap[0]? = some (.cells #[v] el fr) ∧ VR (envOf W b) (.fslice 5 2 opsRow) v ∧ v.oneCell' = true) (zero : ∃ el fr, W.heap[1]? = some (.cells #[.string ⟨[48].toArray⟩, .string ⟨[49].toArray⟩] el fr))
    (round : ∃ el fr, W.heap[2]? = some (.cells (Sha.consts.map fun n => Value.int .u32 (Int.ofNat n)).toArray el fr)) (aggs : ∃ el fr ms clock, W.heap[3]? = some (.cells #[.map (some b)] el fr) ∧ W.heap[b]? = some (.map ms clock) ∧ ∀ ρ, MapRel ρ aggEs ms.toList) :
    Rel (ctxOf W b) (envOf W b) Hs W := by
  have hρ := envOf_fz W b
  have pl : ∀ g cs el fr, g < 12 → W.heap[g]? = some (.cells cs el fr) → envOf W b g = some (g, cs.size) := fun g cs el fr hg h => by
    show (if g < 12 then some (g, match W.heap[g]? with | some (.cells cs _ _) => cs.size | _ => 0) else _) = _
    rw [if_pos hg, h]
  obtain ⟨v, el0, fr0, o1, o2, o3⟩ := ops
  obtain ⟨el1, fr1, z1⟩ := zero
  obtain ⟨el2, fr2, r1⟩ := round
  obtain ⟨el3, fr3, ms, clock, a1, a2, a3⟩ := aggs
  have hdead : ∀ l, 14 ≤ l → Hs.get l = .dead := fun l hl => by
    rw [Hs_get, if_neg (by omega), if_neg (by omega), if_neg (by omega), if_neg (by omega), if_neg (by omega)]
  refine { blk := fun l => ?_, sep := fun l l' r N N' _ h => (by rw [Hs_rw] at h; cases h), prot := fun l r N h => (by rw [Hs_rw] at h; cases h), keep := fun k hk => ?_, size := Nat.le_refl _, os := rfl, output := rfl, tape := rfl, top := fun l hl => ?_, glob := fun g hg => ⟨_, if_pos hg⟩, hid := fun _ _ _ _ _ h => h, env := fun _ h => h.elim, low := hdead, fro := fun k vs h => ?_, frw := fun l r N h => (by rw [Hs_rw] at h; cases h), frx := fun _ h => h.elim, frk := fun _ _ h => h }
  · refine Hs_live (P := fun l blk => BlkRel (envOf W b) W (envOf W b l) blk) ?_ ?_ ?_ ?_ ?_ (fun _ => trivial) l
    · exact cells_ro hρ o1 (pl 0 _ _ _ (by omega) o1) (VRs.cons_iff.2 ⟨o2, rfl⟩) (fun x hx => by
        have : x = v := by simpa using hx
        rw [this]; exact o3)
    · exact cells_ro hρ z1 (pl 1 _ _ _ (by omega) z1) (VRs.cons_iff.2 ⟨by simp only [VR], VRs.cons_iff.2 ⟨by simp only [VR], rfl⟩⟩) (fun x hx => by
        simp only [List.mem_cons, List.not_mem_nil, or_false] at hx
        rcases hx with rfl | rfl <;> rfl)
    · refine cells_ro hρ r1 (pl 2 _ _ _ (by omega) r1) ?_ (fun x hx => ?_)
      · have : ∀ l : List Nat, VRs (envOf W b) (l.map fun n => AV.int .u32 (Int.ofNat n)) (l.map fun n => Value.int .u32 (Int.ofNat n)) := fun l => by
          induction l with
          | nil => exact rfl
          | cons n l ih => exact VRs.cons_iff.2 ⟨by simp only [VR], ih⟩
        exact this _
      · obtain ⟨n, _, rfl⟩ := List.mem_map.1 hx
        rfl
    · exact cells_ro hρ a1 (pl 3 _ _ _ (by omega) a1) (VRs.cons_iff.2 ⟨by simp only [VR]; exact ⟨b, 0, rfl, rfl⟩, rfl⟩) (fun x hx => by
        have : x = .map (some b) := by simpa using hx
        rw [this]; rfl)
    · exact ⟨b, 0, ms.toList, clock, rfl, a2, a3 _⟩
  · rcases hk with hk | hk
    · exact ⟨hk, rfl⟩
    · exact hk.elim
  · have hl : 14 ≤ l := hl
    show (if l < 12 then _ else if l = 13 then _ else none) = none
    rw [if_neg (by omega), if_neg (by omega)]
  · have h : (match W.heap[k]? with | some (.cells cs _ _) => some cs.toList | _ => none) = some vs := h
    split at h
    · rename_i cs el fr hb
      cases h
      exact ⟨el, fr, by rw [hb]⟩
    · cases h
end Go.Sx
end
section
set_option maxRecDepth 1000000
namespace Go.Sx
open Go Go.Deep Go.Proofs Go.ChangeShapes Go.WideShapes
open Go.Proofs.YtleifmkjbmhlpaaGreatDoor (Rows.certifySmallRow)
theorem rows4 (n : Nat) (X : Nat → Nat → Int) (h : ∀ j, j < n → ∀ k, k < 4 → inR .i64 (X j k) = true) : intsRows 4 n (xRow X) = true := by
  refine List.all_eq_true.2 fun j hj => ?_
  have hj := List.mem_range.1 hj
  show (inR .i64 (X j 0) && (inR .i64 (X j 1) && (inR .i64 (X j 2) && (inR .i64 (X j 3) && true)))) = true
  rw [h j hj 0 (by omega), h j hj 1 (by omega), h j hj 2 (by omega), h j hj 3 (by omega)]; rfl
theorem old_of {W : World} {b : Nat} {ρ : Env} {H : AH} {w : World} (h : Rel (ctxOf W b) ρ H w) : OldKept W w := ⟨h.os, h.output, fun i hi => (h.keep i (.inl hi)).2⟩
end Go.Sx
end
section
set_option maxRecDepth 1000000
namespace Go.Sx
open Go Go.Deep Go.Proofs Go.ChangeShapes Go.WideShapes
open Go.Proofs.YtleifmkjbmhlpaaGreatDoor (Rows.certifyRootRow Rows.certifySmallRow)
theorem laid5 : Rows.certifyRootRow.laid = Rows.certifySmallRow.laid := rfl
theorem body5 : (II.body 5).isSome = true := by kernel_rfl
theorem law_call5 {H : Type} {enc : TypeId × Value → H} {W : World} {base : Nat} {args : Array Value} {ds : List (DataW H)} {ps : List MemPlace} {sp : Nat → Bool}
    (hval : ∀ (j : Nat) t v, Tryz.f5.params[j]? = some t → args[j]? = some v → Value.okWide Tryz.prog W .any base t v)
    (hA : DataW.TrodAll enc Tryz.prog W 0 sp true Tryz.f5.params.toList args.toList ds ps) (hL : laidMetH Tryz.prog Rows.certifyRootRow.laid W) :
    Calls Tryz.prog 5 args W fun e W' => e = .returned (.bool true) ∧ OldKept W W' := by
  rw [Tryz.params5] at hA hval
  rw [laid5] at hL
  obtain ⟨v0, v1, d0, d1, p0, p1, rfl, _, _, h0, h1⟩ := trodAll_two hA
  obtain ⟨b, el3, fr3, ms, clock, a1, a2, a3⟩ := laid_aggs hL
  have hρ := envOf_fz W b
  have hr := rel_Hs (laid_ops hρ hL) (laid_zero hL) (laid_round hL) ⟨el3, fr3, ms, clock, a1, a2, a3⟩
  have c3 : Tryz.prog.cellsOf 3 = 1 := c1.1
  have c81 : Tryz.prog.cellsOf 81 = 4 := c2.2.2.2.1
  obtain ⟨sa, sl, sc, rfl⟩ := okWide_slice Tryz.underlying22 (hval 0 22 v0 rfl rfl)
  obtain ⟨fuel0, h0⟩ := h0
  obtain ⟨n, X, hv0, hX⟩ := open_rows hρ Tryz.underlying22 Tryz.underlying81 Tryz.underlying3 c3 c81 (by omega) h0
  obtain ⟨sa', sl', sc', rfl⟩ := okWide_slice Tryz.underlying22 (hval 1 22 v1 rfl rfl)
  obtain ⟨fuel1, h1⟩ := h1
  obtain ⟨m, Y, hv1, hY⟩ := open_rows hρ Tryz.underlying22 Tryz.underlying81 Tryz.underlying3 c3 c81 (by omega) h1
  have hv : VRs (envOf W b) [.fslice n 4 (xRow X), .fslice m 4 (xRow Y)] [.slice sa sl sc, .slice sa' sl' sc'] :=
    VRs.cons_iff.2 ⟨hv0, VRs.cons_iff.2 ⟨hv1, rfl⟩⟩
  rcases law5_ok (rows4 n X hX) (rows4 m Y hY) (ctxOf W b) (envOf W b) W _ rfl hv hr with ⟨_, k⟩ | ⟨v, w', k, _⟩
  · refine k.mono fun e W' he => ?_
    cases e with
    | returned v =>
      obtain ⟨ρ', _, k1, k2⟩ := he
      simp only [VR] at k2
      exact ⟨by rw [k2], old_of k1⟩
    | panicked ch => exact he.elim
    | outgrown => exact he.elim
  · exfalso
    obtain ⟨⟨c, nt, rs⟩, hb⟩ := Option.isSome_iff_exists.1 body5
    obtain ⟨fn, _, _, _, _, hrun⟩ := hII.body 5 c nt rs hb
    rw [hrun] at k
    cases k
end Go.Sx
end
section
set_option maxRecDepth 100000
namespace Go.Proofs.YtleifmkjbmhlpaaGreatDoor.certifySmall
open Go.ChangeShapes Go.WideShapes Go.ChangeAt Go.RowKit
theorem kids : Kids Tryz.prog (· < Tryz.prog.types.size) := kids_rows (by kernel_rfl) (by kernel_rfl)
theorem full : ∀ {t e : TypeId}, t < Tryz.prog.types.size → Tryz.prog.underlying t = some (.slice e) → 0 < Tryz.prog.cellsOf e := fun {t e} h1 h2 => slices_full_of Tryz.prog (by kernel_rfl) t e h1 h2
theorem sizes : (decide (25 < Tryz.prog.types.size)) = true := by kernel_rfl
end Go.Proofs.YtleifmkjbmhlpaaGreatDoor.certifySmall
end
