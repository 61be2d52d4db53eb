/- CertifyRoot is proved: its end. For every input. -/
import Derived.Test.YtleifmkjbmhlpaaGreatDoorX40
set_option linter.unusedVariables false
set_option linter.unusedSimpArgs false
set_option linter.unusedSectionVars false
section
set_option maxRecDepth 1000000
namespace Go.Proofs.YtleifmkjbmhlpaaGreatDoor.certifySmall
open Go.ChangeShapes Go.WideShapes Go.ChangeAt Go.RowKit
theorem own : ownKnob Tryz.prog.godebug = none := by kernel_rfl
noncomputable def laidWorld (n : Nat) (os : Os) : World :=
  { World.doorLaid Tryz.prog n os with heap := (World.doorLaid Tryz.prog n os).heap.modify 8 fun
      | .cells _ t fr => .cells (Pinned.utf8FirstZ.map fun (z : Nat) => Value.int .u8 (Int.ofNat z)).toArray t fr
      | o => o }
end Go.Proofs.YtleifmkjbmhlpaaGreatDoor.certifySmall
end
section
set_option maxRecDepth 1000000
namespace Go.Proofs.YtleifmkjbmhlpaaGreatDoor.certifyRoot
open Go.ChangeShapes Go.WideShapes Go.ChangeAt Go.RowKit
open Go.Proofs.YtleifmkjbmhlpaaGreatDoor.certifySmall (kids full sizes own laidWorld)
theorem contract (H : Type) (enc : TypeId × Value → H) (W : World) (base : Nat) (args : Array Value) (ds gs : List (DataW H)) (before : List MemPlace)
    (hval : ∀ (j : Nat) t v, Tryz.f5.params[j]? = some t → args[j]? = some v → Value.okWide Tryz.prog W .any base t v)
    (hW : DataW.Whole enc Tryz.prog Tryz.f5.params.toList Rows.certifyRootSpec.vars false W args.toList ds gs before) (hL : laidMetH Tryz.prog Rows.certifyRootRow.laid W) :
    Calls Tryz.prog 5 args W fun e W' => ∃ v, e = .returned v ∧ Rows.certifyRootSpec.post enc Tryz.prog Tryz.f5 false true false false W args v W' := by
  have hW' := hW
  obtain ⟨p, q, hA, hV, _, _, _⟩ := hW'
  obtain ⟨rfl, _⟩ := trodVars_none hV
  have hA2 := hA
  rw [Tryz.params5] at hA2
  obtain ⟨v0, v1, d0, d1, p0, p1, _, hd, _, _, _⟩ := trodAll_two hA2
  subst hd
  refine (Sx.law_call5 hval hA hL).mono fun e W' ⟨he, hk⟩ => ?_
  refine ⟨_, he, Sx.post_kept kids full (fun t ht => ?_) rfl hW hk (fun _ _ _ => ?_) rfl rfl (ok_one (by kernel_rfl) rfl (okWide_bool_mk Tryz.underlying4 _))⟩
  · rw [Tryz.params5] at ht
    have hs := of_decide_eq_true sizes
    have : t = 22 := by simpa using ht
    subst this
    exact Nat.lt_trans (by decide) hs
  · exact trodAll_cons_mk (shut_bool Tryz.underlying4 _) trodAll_mk0
def wargs : Array Value := #[.slice none 0 0, .slice none 0 0]
theorem laid_met (os : Os) : laidMetH Tryz.prog Rows.certifyRootRow.laid ((laidWorld 8000 os).forCall (fun _ _ => 0) ⟨#[], wargs, []⟩).memory :=
  laidMetH_of_parts3 (fuel := 8) (laidMet_of_run' 8 (by kernel_rfl) (by kernel_rfl)) (by kernel_rfl) (by kernel_rfl)
end Go.Proofs.YtleifmkjbmhlpaaGreatDoor.certifyRoot
end
section
set_option maxRecDepth 1000000
namespace Go.Proofs.YtleifmkjbmhlpaaGreatDoor.certifyRoot
open Go.ChangeShapes Go.WideShapes Go.ChangeAt Go.RowKit
open Go.Proofs.YtleifmkjbmhlpaaGreatDoor.certifySmall (own laidWorld)
theorem reads (os : Os) {H : Type} (enc : TypeId × Value → H) : ∃ places, DataW.whole enc Tryz.prog ((laidWorld 8000 os).forCall (fun _ _ => 0) ⟨#[], wargs, []⟩).memory Tryz.f5.params.toList Rows.certifyRootSpec.vars false wargs.toList 8 = some ([.nil, .nil], [], places) :=
  ⟨[], by kernel_rfl⟩
theorem lifted (os : Os) (started : os.Started) (H : Type) (enc : TypeId × Value → H) (F : Stop.Interp) :
    ReturnsInHanded {} Tryz.checked os 5 .any ((OpenSpec.ofChange Rows.certifyRootSpec).preRow enc Tryz.prog Tryz.f5 Rows.certifyRootRow.domain false Rows.certifyRootRow.laid) (((OpenSpec.ofChange Rows.certifyRootSpec).at F).post enc Tryz.prog Tryz.f5 false true false false) := by
  obtain ⟨places, hx⟩ := reads os enc
  refine returnsInHanded_of_row (C := Tryz.checked) (s := OpenSpec.ofChange Rows.certifyRootSpec) own started (by kernel_rfl) Tryz.func5
    (witness_row_at (enc := enc) (C := Tryz.checked) false (laidWorld 8000 os) wargs rfl (by kernel_rfl) (by kernel_rfl) (by kernel_rfl)
      (OpenSpec.preRow_of_cond 8 hx (by kernel_rfl) (fun k hk => by cases hk) (by kernel_rfl) (laid_met os))) ?_
  intro W base args ds gs before hval hW _ _ _ hL _ _
  exact contract H enc W base args ds gs before hval hW hL
theorem andT {a b : Bool} (h : a = true) (k : b = true) : (a && b) = true := by rw [h, k]; rfl
set_option maxHeartbeats 0 in
theorem closed : joinedFacts Tryz.pinned.checked.prog 5 Tryz.f5 (OpenSpec.ofChange Rows.certifyRootSpec).bare Rows.certifyRootRow = true := by
  unfold joinedFacts
  repeat' (with_reducible refine andT ?_ ?_)
  all_goals as_aux_lemma => kernel_rfl
theorem fnNamed : Tryz.pinned.checked.prog.funcNamed Rows.certifyRootRow.func = some 5 := by kernel_rfl
theorem wrap : Tryz.f5.isWrapper Tryz.pinned.checked.prog Rows.certifyRootRow.wrapper Rows.certifyRootRow.mainSum := by unfold Func.isWrapper; first | (rw [if_pos (by decide +kernel)]; kernel_rfl) | (rw [if_neg (by decide +kernel)]; exact ⟨rfl, rfl⟩)
theorem inst : Tryz.f5.isInstance Tryz.pinned.checked.prog Rows.certifyRootRow.origin Rows.certifyRootRow.targs := (of_decide_eq_true (by kernel_rfl))
theorem said : Rows.CertifyRootSaid :=
  OpenClaim.holds_of_cond 5 Tryz.f5 rfl rfl rfl rfl rfl rfl rfl ⟨rfl, rfl, rfl, rfl, rfl⟩ rfl rfl rfl rfl rfl fnNamed Tryz.func5 closed inst wrap
    (fun os started H enc _ F => by rw [OpenClaim.pre_eq_preRow]; exact lifted os started H enc F)
theorem looksYes : true = Tryz.pinned.checked.prog.looks [] := by kernel_rfl
theorem stand22 : Tryz.prog.wantsStandIn 22 = false := by kernel_rfl
theorem plain (f : FuncId) (fn : Func) (hf : Tryz.pinned.checked.prog.funcNamed Rows.certifyRootRow.func = some f) (hfn : Tryz.pinned.checked.prog.funcs[f]? = some fn) :
    true = Tryz.pinned.checked.prog.looks [] ∧ ∀ (j : Nat) t, fn.params[j]? = some t → Tryz.pinned.checked.prog.wantsStandIn t = false := by
  obtain rfl : f = 5 := Option.some.inj (fnNamed.symm.trans hf) |>.symm
  obtain rfl : fn = Tryz.f5 := (Option.some.inj (Tryz.func5.symm.trans hfn)).symm
  refine ⟨looksYes, fun j t ht => ?_⟩
  rw [Tryz.params5] at ht
  have : t = 22 := by simpa using Array.mem_of_getElem? ht
  subst this
  exact stand22
theorem card : Rows.CertifyRootCardSaid :=
  Claim7.holds_tied_plain_at .later [] _ _ _ _ said (fun _ h => by cases h) (by kernel_rfl) (fun _ h => by cases h) certifyRoot_row_tie rfl ⟨rfl, rfl⟩ (by kernel_rfl) rfl plain (by kernel_rfl)
end Go.Proofs.YtleifmkjbmhlpaaGreatDoor.certifyRoot
end
