/- CertifyRoot is proved, part 39. -/
import Derived.WideKeyElems2
import Derived.LaidMore
import Derived.WideShapes
import Derived.Test.YtleifmkjbmhlpaaGreatDoorX38
import Derived.Test.YtleifmkjbmhlpaaGreatDoorRows
import Derived.LaidSub
import Derived.Lib.LaidTab
import Derived.Test.YtleifmkjbmhlpaaGreatDoorX28
set_option linter.unusedVariables false
set_option linter.unusedSimpArgs false
set_option linter.unusedSectionVars false
section
set_option maxRecDepth 1000000
namespace Go.Sx
open Go Go.WideShapes
theorem key_int {P : Program} {k : TypeId} (hk : P.underlying k = some (.int .i64)) {v : Value} {n : Int} (h : keyOf P k v = some (.int .i64 n)) : v = .int .i64 n := by
  unfold keyOf at h
  rw [hk] at h
  unfold mapKey at h
  rw [hk] at h
  cases v <;> simp at h
  obtain ⟨⟨rfl, _⟩, rfl⟩ := h
  rfl
theorem val_fn {P : Program} {W : World} {e : TypeId} {f0 : Field} {ps rs : Array TypeId} {va : Bool} {n : Nat} {sp : Nat → Bool} {v : Value} {z : DataW (List UInt8) × List MemPlace} {b : UInt8} {r : List UInt8} {f : FuncId}
    (he : P.underlying e = some (.struct #[f0])) (h0 : f0.offset = 0) (hce : P.cellsOf e = 1) (hcf : P.cellsOf f0.type = 1) (hf : P.underlying f0.type = some (.func ps rs va))
    (hone : ((List.range P.funcs.size).filter fun f => (P.funcs[f]?).any (·.name.toUTF8.data.toList == b :: r)) = [f])
    (h : WideElems.elemAt (funcToken P) P W 0 sp true n e v = some z) (hz : z.1 = .agg [.held (b :: r)]) : v = .agg #[.func (.func f) #[] #[]] := by
  unfold WideElems.elemAt at h
  split at h
  · rename_i hform
    obtain ⟨xs, m, _, hx, hl, hxl, hel⟩ := DataW.trod_struct he h
    rw [hx] at hz
    simp only [DataW.agg.injEq] at hz
    match xs, hxl, hz with
    | [x0], _, hz =>
      simp only [List.map_cons, List.map_nil, List.cons.injEq, and_true] at hz
      have h2 := hel 0 f0 rfl
      rw [h0, hcf, List.drop_zero] at h2
      rw [hce] at hl
      obtain ⟨c, hc⟩ : ∃ c, v.cells.toList = [c] := by
        match hv : v.cells.toList, hl with
        | [c], _ => exact ⟨c, rfl⟩
      rw [hc] at h2
      simp only [List.take_succ_cons, List.take_zero, List.getElem?_cons_zero] at h2
      obtain ⟨x1, x2⟩ := x0
      simp only at hz
      subst hz
      have hcv := func_of_trod hf hone h2
      subst hcv
      unfold Value.formed at hform
      cases v with
      | agg cs =>
        have : cs = #[.func (.func f) #[] #[]] := by
          apply Array.ext'
          exact hc
        rw [this]
      | _ => simp [he] at hform
  · cases h
theorem open_five {P : Program} {W : World} {t k e : TypeId} {f0 : Field} {ps rs : Array TypeId} {va : Bool} {fuel : Nat} {cs : List Value} {p : List MemPlace} {N : Nat → UInt8 × List UInt8} {F : Nat → FuncId}
    (ht : P.underlying t = some (.map k e)) (hk : P.underlying k = some (.int .i64)) (he : P.underlying e = some (.struct #[f0])) (h0 : f0.offset = 0) (hce : P.cellsOf e = 1) (hcf : P.cellsOf f0.type = 1) (hf : P.underlying f0.type = some (.func ps rs va))
    (hone : ∀ i, i < 5 → ((List.range P.funcs.size).filter fun f => (P.funcs[f]?).any (·.name.toUTF8.data.toList == (N i).1 :: (N i).2)) = [F i])
    (h : DataW.trod (funcToken P) P W 0 (fun _ => true) true fuel t cs = some (.map [(.int .i64 1, .agg [.held ((N 0).1 :: (N 0).2)]), (.int .i64 2, .agg [.held ((N 1).1 :: (N 1).2)]), (.int .i64 3, .agg [.held ((N 2).1 :: (N 2).2)]), (.int .i64 4, .agg [.held ((N 3).1 :: (N 3).2)]), (.int .i64 5, .agg [.held ((N 4).1 :: (N 4).2)])], p)) :
    ∃ b ms clock, cs = [.map (some b)] ∧ W.heap[b]? = some (.map ms clock) ∧ (∀ x ∈ ms.toList, ∃ i : Nat, i < 5 ∧ x.key = .int .i64 ((i : Int) + 1) ∧ x.val = .agg #[.func (.func (F i)) #[] #[]]) ∧ ∀ i : Nat, i < 5 → ∃ x ∈ ms.toList, x.key = .int .i64 ((i : Int) + 1) := by
  rcases WideElems.open_map ht h with ⟨_, hx⟩ | ⟨b, es, clock, n, _, hcs, hb, _, fit, hx⟩
  · simp at hx
  · simp only [Prod.mk.injEq, DataW.map.injEq] at hx
    obtain ⟨hL, _⟩ := hx
    have perm := sorted_perm (es.toList.map (WideElems.rg P k (WideElems.elemAt (funcToken P) P W 0 (fun _ => true) true n e)))
    rw [← hL] at perm
    refine ⟨b, es, clock, hcs, hb, fun x hx => ?_, fun i hi => ?_⟩
    · obtain ⟨y, hy⟩ := fit.reads x hx
      have hm := perm.mem_iff.2 (List.mem_map.2 ⟨x, hx, WideElems.rg_of hy⟩)
      obtain ⟨z, hz, hyz⟩ := WideElems.rd_val hy
      have hkey := WideElems.rd_key hy
      simp only [List.mem_cons, List.not_mem_nil, or_false] at hm
      rcases hm with rfl | rfl | rfl | rfl | rfl
      · exact ⟨0, by omega, key_int hk hkey, val_fn he h0 hce hcf hf (hone 0 (by omega)) hz hyz.symm⟩
      · exact ⟨1, by omega, key_int hk hkey, val_fn he h0 hce hcf hf (hone 1 (by omega)) hz hyz.symm⟩
      · exact ⟨2, by omega, key_int hk hkey, val_fn he h0 hce hcf hf (hone 2 (by omega)) hz hyz.symm⟩
      · exact ⟨3, by omega, key_int hk hkey, val_fn he h0 hce hcf hf (hone 3 (by omega)) hz hyz.symm⟩
      · exact ⟨4, by omega, key_int hk hkey, val_fn he h0 hce hcf hf (hone 4 (by omega)) hz hyz.symm⟩
    · have back : ∀ y ∈ [((.int .i64 1 : Lit), (.agg [.held ((N 0).1 :: (N 0).2)] : DataW (List UInt8))), (.int .i64 2, .agg [.held ((N 1).1 :: (N 1).2)]), (.int .i64 3, .agg [.held ((N 2).1 :: (N 2).2)]), (.int .i64 4, .agg [.held ((N 3).1 :: (N 3).2)]), (.int .i64 5, .agg [.held ((N 4).1 :: (N 4).2)])], ∃ x ∈ es.toList, keyOf P k x.key = some y.1 := fun y hy => by
        obtain ⟨x, hx, hxy⟩ := List.mem_map.1 (perm.mem_iff.1 hy)
        obtain ⟨y', hy'⟩ := fit.reads x hx
        rw [WideElems.rg_of hy'] at hxy
        subst hxy
        exact ⟨x, hx, WideElems.rd_key hy'⟩
      have fin : ∀ n d, ((.int .i64 n : Lit), (d : DataW (List UInt8))) ∈ [((.int .i64 1 : Lit), (.agg [.held ((N 0).1 :: (N 0).2)] : DataW (List UInt8))), (.int .i64 2, .agg [.held ((N 1).1 :: (N 1).2)]), (.int .i64 3, .agg [.held ((N 2).1 :: (N 2).2)]), (.int .i64 4, .agg [.held ((N 3).1 :: (N 3).2)]), (.int .i64 5, .agg [.held ((N 4).1 :: (N 4).2)])] → ∃ x ∈ es.toList, x.key = .int .i64 n := fun n d hm => by
        obtain ⟨x, hx, hk1⟩ := back _ hm
        exact ⟨x, hx, key_int hk hk1⟩
      match i, hi with
      | 0, _ => exact fin 1 (.agg [.held ((N 0).1 :: (N 0).2)]) (by simp)
      | 1, _ => exact fin 2 (.agg [.held ((N 1).1 :: (N 1).2)]) (by simp)
      | 2, _ => exact fin 3 (.agg [.held ((N 2).1 :: (N 2).2)]) (by simp)
      | 3, _ => exact fin 4 (.agg [.held ((N 3).1 :: (N 3).2)]) (by simp)
      | 4, _ => exact fin 5 (.agg [.held ((N 4).1 :: (N 4).2)]) (by simp)
      | i + 5, h => exact absurd h (by omega)
end Go.Sx
end
section
set_option maxRecDepth 1000000
namespace Go.Sx
open Go Go.Deep
theorem fslice_of {ρ : Env} {W : World} {a : Addr} {len cap m : Nat} {f : Nat → List AV} (hρ : FzAll ρ W) (hm : 0 < m) (hl : len ≤ cap)
    (hrow : ∀ j, j < len → ∃ us : List Value, us.length = m ∧ (∀ u ∈ us, u.oneCell' = true) ∧ VRs ρ.bare (f j) us ∧ ∀ k, k < m → W.cell? (a.add (j * m + k)) = us[k]?) : VR ρ (.fslice len m f) (.slice (some a) len cap) := by
  by_cases hz : len = 0
  · subst hz
    simp only [VR]
    exact .inr ⟨0, 0, cap, a, fun _ => [], rfl, hl, fun h => absurd h (Nat.lt_irrefl _)⟩
  · obtain ⟨us0, l0, _, _, c0⟩ := hrow 0 (by omega)
    have h00 := c0 0 hm
    have ea : a.add (0 * m + 0) = a := by simp [Addr.add]
    rw [ea] at h00
    obtain ⟨b, off, spot⟩ := a
    have hspot : spot = none ∧ ∃ cs el fr, W.heap[b]? = some (.cells cs el fr) := by
      have hsome : us0[0]? ≠ none := by rw [List.getElem?_eq_getElem (by omega)]; exact fun h => by cases h
      unfold World.cell? at h00
      split at h00
      · rename_i c el fr hb
        cases spot with
        | none => exact ⟨rfl, c, el, fr, hb⟩
        | some s => simp at h00; exact absurd h00.symm (by simpa using hsome)
      · exact absurd h00.symm hsome
    obtain ⟨rfl, cs, el, fr, hb⟩ := hspot
    have e1 : ∀ q, (Addr.mk b off none).add q = ⟨b, off + q, none⟩ := fun q => by
      unfold Addr.add
      by_cases hz : q = 0
      · rw [if_pos hz, hz]; rfl
      · rw [if_neg hz]
    have row : ∀ j, j < len → ∃ us : List Value, us.length = m ∧ (∀ u ∈ us, u.oneCell' = true) ∧ VRs ρ.bare (f j) us ∧ off + j * m + m ≤ cs.toList.length ∧ (cs.toList.drop (off + j * m)).take m = us := by
      intro j hj
      obtain ⟨us, h1, h2, h3, h4⟩ := hrow j hj
      have at_ : ∀ k, k < m → cs.toList[off + j * m + k]? = us[k]? := fun k hk => by
        have := h4 k hk
        rw [e1] at this
        simp only [World.cell?, hb, Option.isSome_none, Bool.false_eq_true, if_false] at this
        rw [← this, Nat.add_assoc]
        simp
      have hlast : off + j * m + m ≤ cs.toList.length := by
        have := at_ (m - 1) (by omega)
        rw [List.getElem?_eq_getElem (show m - 1 < us.length by omega)] at this
        have := (List.getElem?_eq_some_iff.1 this).1
        omega
      refine ⟨us, h1, h2, h3, hlast, ?_⟩
      apply List.ext_getElem?
      intro k
      by_cases hk : k < m
      · rw [List.getElem?_take_of_lt hk, List.getElem?_drop, at_ k hk]
      · rw [List.getElem?_eq_none (by rw [List.length_take]; omega), List.getElem?_eq_none (by omega)]
    have hall : off + len * m ≤ cs.toList.length := by
      obtain ⟨_, _, _, _, h, _⟩ := row (len - 1) (by omega)
      have e2 : (len - 1) * m + m = len * m := by
        obtain ⟨l, rfl⟩ : ∃ l, len = l + 1 := ⟨len - 1, by omega⟩
        rw [Nat.add_sub_cancel, Nat.succ_mul]
      omega
    simp only [VR]
    refine .inr ⟨b, off, cap, ⟨b, off, none⟩, fun j => (cs.toList.drop (off + j * m)).take m, rfl, hl, fun _ => ⟨rfl, ⟨?_, cs.toList.take off, cs.toList.drop (off + len * m), by rw [List.length_take]; omega, ?_⟩, fun j hj => ?_⟩⟩
    · intro u hu
      obtain ⟨j, hj, hu⟩ := List.mem_flatMap.1 hu
      obtain ⟨us, _, h2, _, _, h5⟩ := row j (List.mem_range.1 hj)
      simp only [h5] at hu
      exact h2 u hu
    · rw [hρ b cs el fr hb, flat_cut hall, ← List.drop_drop]
      rw [List.append_assoc, List.take_append_drop, List.take_append_drop]
    · obtain ⟨us, h1, _, h3, _, h5⟩ := row j hj
      simp only [h5]
      exact ⟨h1, h3⟩
theorem str_of {H : Type} {enc : TypeId × Value → H} {P : Program} {W : World} {sp : Nat → Bool} {held : Bool} {fuel : Nat} {t : TypeId} {c : Value} {s : List UInt8} {p : List MemPlace} (ht : P.underlying t = some .string)
    (h : DataW.trod enc P W 0 sp held fuel t [c] = some (.lit (.string s), p)) : c = .string ⟨s.toArray⟩ := by
  obtain ⟨b, h1, h2, _⟩ := DataW.trod_string ht h
  simp only [Prod.mk.injEq, DataW.lit.injEq, Lit.string.injEq] at h2
  simp only [List.cons.injEq, and_true] at h1
  rw [h1, h2.1]
theorem nil_of {H : Type} {enc : TypeId × Value → H} {P : Program} {W : World} {sp : Nat → Bool} {held : Bool} {fuel : Nat} {t : TypeId} {ps rs : Array TypeId} {va : Bool} {c : Value} {p : List MemPlace} (ht : P.underlying t = some (.func ps rs va))
    (h : DataW.trod enc P W 0 sp held fuel t [c] = some (.nil, p)) : c = .nilFunc := by
  cases fuel with
  | zero => simp [DataW.trod] at h
  | succ n => cases c <;> simp [DataW.trod, ht] at h <;> rfl
theorem row_of {ρ : Env} {P : Program} {W : World} {e : TypeId} {f0 f1 : Field} {sp : Nat → Bool} {fuel : Nat} {cs : List Value} {x : DataW (List UInt8) × List MemPlace} {d0 d1 : DataW (List UInt8)} {a0 a1 : AV} (he : P.underlying e = some (.struct #[f0, f1])) (o0 : f0.offset = 0) (o1 : f1.offset = 1) (c0 : P.cellsOf f0.type = 1) (c1 : P.cellsOf f1.type = 1) (ce : P.cellsOf e = 2)
    (h : DataW.trod (funcToken P) P W 0 sp true fuel e cs = some x) (hx : x.1 = .agg [d0, d1])
    (h0 : ∀ n c p, DataW.trod (funcToken P) P W 0 sp true n f0.type [c] = some (d0, p) → VR ρ a0 c ∧ c.oneCell' = true) (h1 : ∀ n c p, DataW.trod (funcToken P) P W 0 sp true n f1.type [c] = some (d1, p) → VR ρ a1 c ∧ c.oneCell' = true) :
    ∃ us : List Value, cs = us ∧ us.length = 2 ∧ (∀ u ∈ us, u.oneCell' = true) ∧ VRs ρ [a0, a1] us := by
  obtain ⟨xs, n, _, hxx, hl, hxl, hel⟩ := DataW.trod_struct he h
  rw [hxx] at hx
  simp only [DataW.agg.injEq] at hx
  rw [ce] at hl
  match xs, hxl, hx with
  | [x0, x1], _, hx =>
    match cs, hl with
    | [u0, u1], _ =>
      simp only [List.map_cons, List.map_nil, List.cons.injEq, and_true] at hx
      have g0 := hel 0 f0 rfl
      have g1 := hel 1 f1 rfl
      rw [o0, c0] at g0
      rw [o1, c1] at g1
      simp only [List.drop_zero, List.take_succ_cons, List.take_zero, List.getElem?_cons_zero] at g0
      simp only [List.drop_succ_cons, List.drop_zero, List.take_succ_cons, List.take_zero, List.getElem?_cons_succ, List.getElem?_cons_zero] at g1
      obtain ⟨x0, p0⟩ := x0
      obtain ⟨x1, p1⟩ := x1
      obtain ⟨rfl, rfl⟩ := hx
      obtain ⟨k1, k2⟩ := h0 _ _ _ g0
      obtain ⟨k3, k4⟩ := h1 _ _ _ g1
      refine ⟨[u0, u1], rfl, rfl, fun u hu => ?_, ⟨u0, [u1], rfl, k1, u1, [], rfl, k3, rfl⟩⟩
      simp only [List.mem_cons, List.not_mem_nil, or_false] at hu
      rcases hu with rfl | rfl
      · exact k2
      · exact k4
theorem fn_of {ρ : Env} {f : FuncId} {c : Value} (h : c = .func (.func f) #[] #[]) : VR ρ (.fn f [] []) c ∧ c.oneCell' = true := by
  subst h
  refine ⟨?_, rfl⟩
  simp only [VR]
  exact ⟨[], [], rfl, rfl, rfl⟩
theorem s_of {ρ : Env} {s : List UInt8} {c : Value} (h : c = .string ⟨s.toArray⟩) : VR ρ (.str s) c ∧ c.oneCell' = true := by
  subst h
  exact ⟨by simp only [VR], rfl⟩
end Go.Sx
end
section
set_option maxRecDepth 1000000
namespace Go.Sx
open Go Go.Deep Go.Proofs
open Go.Proofs.YtleifmkjbmhlpaaGreatDoor (Rows.certifySmallRow)
theorem laidVars_mem {P : Program} {W : World} {n : String} {d : DataW Unit} : ∀ {l : List (String × DataW Unit)} {ps : List MemPlace}, DataW.LaidVars P W l ps → (n, d) ∈ l →
    ∃ g t cs fuel p, P.globalNamed n = some g ∧ (P.globals[g]?).map (·.type) = some t ∧ W.var? P n = some cs ∧ DataW.trod (fun _ => ()) P W 0 (fun _ => true) false fuel t cs.toList = some (d, p)
  | [], _, _, h => by cases h
  | (n', d') :: l, _, ⟨g, t, cs, fuel, p, q, h1, h2, h3, h4, h5, _⟩, h => by
    rcases List.mem_cons.1 h with e | h
    · cases e; exact ⟨g, t, cs, fuel, p, h1, h2, h3, h4⟩
    · exact laidVars_mem h5 h
theorem data_of {P : Program} {W : World} {l : List (String × DataW Unit)} (hL : laidMetH P l W) {n : String} {d : DataW Unit} (hm : (n, d) ∈ l) (hd : d.handleName?.isNone = true) :
    ∃ g t cs fuel p, P.globalNamed n = some g ∧ (P.globals[g]?).map (·.type) = some t ∧ W.var? P n = some cs ∧ DataW.trod (fun _ => ()) P W 0 (fun _ => true) false fuel t cs.toList = some (d, p) := by
  obtain ⟨⟨ps, h, _⟩, _⟩ := laidMetH_iff.1 hL
  exact laidVars_mem h (List.mem_filter.2 ⟨hm, hd⟩)
theorem heap_of {P : Program} {W : World} {n : String} {g : Nat} {cs : Array Value} (hg : P.globalNamed n = some g) (h : W.var? P n = some cs) : ∃ el fr, W.heap[g]? = some (.cells cs el fr) := by
  simp only [World.var?, hg, Option.bind_some] at h
  split at h
  · rename_i c el fr hb
    cases h
    exact ⟨el, fr, hb⟩
  · cases h
theorem one_of {cs : Array Value} {v : Value} (h : cs.toList = [v]) : cs = #[v] := by
  apply Array.ext'; exact h
theorem gOps : PP.globalNamed "latecomer/query.operators" = some 0 := by kernel_rfl
theorem gZero : PP.globalNamed "latecomer/answer.zero" = some 1 := by kernel_rfl
theorem gRound : PP.globalNamed "latecomer/digest.round" = some 2 := by kernel_rfl
theorem gAggs : PP.globalNamed "latecomer/answer.aggregates" = some 3 := by kernel_rfl
theorem tOps : (PP.globals[0]?).map (·.type) = some 99 := by kernel_rfl
theorem tZero : (PP.globals[1]?).map (·.type) = some 32 := by kernel_rfl
theorem tRound : (PP.globals[2]?).map (·.type) = some 236 := by kernel_rfl
theorem tAggs : (PP.globals[3]?).map (·.type) = some 264 := by kernel_rfl
theorem c1 : PP.cellsOf 3 = 1 ∧ PP.cellsOf 9 = 1 ∧ PP.cellsOf 96 = 1 ∧ PP.cellsOf 218 = 1 ∧ PP.cellsOf 263 = 1 ∧ PP.cellsOf 159 = 1 := ⟨by kernel_rfl, by kernel_rfl, by kernel_rfl, by kernel_rfl, by kernel_rfl, by kernel_rfl⟩
theorem c2 : PP.cellsOf 98 = 2 ∧ PP.cellsOf 32 = 2 ∧ PP.cellsOf 236 = 64 ∧ PP.cellsOf 81 = 4 ∧ PP.cellsOf 72 = 3 ∧ PP.cellsOf 25 = 4 ∧ PP.cellsOf 23 = 1 := ⟨by kernel_rfl, by kernel_rfl, by kernel_rfl, by kernel_rfl, by kernel_rfl, by kernel_rfl, by kernel_rfl⟩
def opName (c : UInt8) : UInt8 × List UInt8 := (108, [97, 116, 101, 99, 111, 109, 101, 114, 47, 113, 117, 101, 114, 121, 46, 111, 112, 101, 114, 97, 116, 111, 114, 115, 36, c])
def aggName (i : Nat) : UInt8 × List UInt8 := (108, [97, 116, 101, 99, 111, 109, 101, 114, 47, 97, 110, 115, 119, 101, 114, 46, 97, 103, 103, 114, 101, 103, 97, 116, 101, 115, 36, match i with | 0 => 49 | 1 => 50 | 2 => 51 | 3 => 52 | _ => 53])
def aggFn (i : Nat) : FuncId := match i with | 0 => 317 | 1 => 319 | 2 => 321 | 3 => 323 | _ => 324
theorem one49 : ((List.range PP.funcs.size).filter fun f => (PP.funcs[f]?).any (·.name.toUTF8.data.toList == (opName 49).1 :: (opName 49).2)) = [313] := by kernel_rfl
theorem one50 : ((List.range PP.funcs.size).filter fun f => (PP.funcs[f]?).any (·.name.toUTF8.data.toList == (opName 50).1 :: (opName 50).2)) = [314] := by kernel_rfl
theorem one51 : ((List.range PP.funcs.size).filter fun f => (PP.funcs[f]?).any (·.name.toUTF8.data.toList == (opName 51).1 :: (opName 51).2)) = [315] := by kernel_rfl
theorem one52 : ((List.range PP.funcs.size).filter fun f => (PP.funcs[f]?).any (·.name.toUTF8.data.toList == (opName 52).1 :: (opName 52).2)) = [316] := by kernel_rfl
theorem oneAgg0 : ((List.range PP.funcs.size).filter fun f => (PP.funcs[f]?).any (·.name.toUTF8.data.toList == (aggName 0).1 :: (aggName 0).2)) = [aggFn 0] := by kernel_rfl
theorem oneAgg1 : ((List.range PP.funcs.size).filter fun f => (PP.funcs[f]?).any (·.name.toUTF8.data.toList == (aggName 1).1 :: (aggName 1).2)) = [aggFn 1] := by kernel_rfl
theorem oneAgg2 : ((List.range PP.funcs.size).filter fun f => (PP.funcs[f]?).any (·.name.toUTF8.data.toList == (aggName 2).1 :: (aggName 2).2)) = [aggFn 2] := by kernel_rfl
theorem oneAgg3 : ((List.range PP.funcs.size).filter fun f => (PP.funcs[f]?).any (·.name.toUTF8.data.toList == (aggName 3).1 :: (aggName 3).2)) = [aggFn 3] := by kernel_rfl
theorem oneAgg4 : ((List.range PP.funcs.size).filter fun f => (PP.funcs[f]?).any (·.name.toUTF8.data.toList == (aggName 4).1 :: (aggName 4).2)) = [aggFn 4] := by kernel_rfl
theorem oneAgg (i : Nat) (hi : i < 5) : ((List.range PP.funcs.size).filter fun f => (PP.funcs[f]?).any (·.name.toUTF8.data.toList == (aggName i).1 :: (aggName i).2)) = [aggFn i] := by
  match i, hi with
  | 0, _ => exact oneAgg0
  | 1, _ => exact oneAgg1
  | 2, _ => exact oneAgg2
  | 3, _ => exact oneAgg3
  | 4, _ => exact oneAgg4
  | i + 5, h => exact absurd h (by omega)
end Go.Sx
end
section
set_option maxRecDepth 1000000
namespace Go.Sx
open Go Go.Deep Go.Proofs
open Go.Proofs.YtleifmkjbmhlpaaGreatDoor (Rows.certifySmallRow)
theorem laid_aggs {W : World} (hL : laidMetH PP Rows.certifySmallRow.laid W) : ∃ b el fr ms clock, W.heap[3]? = some (.cells #[.map (some b)] el fr) ∧ W.heap[b]? = some (.map ms clock) ∧ ∀ ρ, MapRel ρ aggEs ms.toList := by
  obtain ⟨g, t, cs, fuel, p, hg, ht, hv, hd⟩ := hL.funcs (n := "latecomer/answer.aggregates") (d := _) (by
    show _ ∈ [_, _, _, _, _, _, _, _, _, _, _]
    iterate 9 apply List.mem_cons_of_mem
    exact List.mem_cons_self)
  obtain rfl := Option.some.inj (gAggs.symm.trans hg)
  obtain rfl := Option.some.inj (tAggs.symm.trans ht)
  obtain ⟨b, ms, clock, hcs, hb, h1, h2⟩ := open_five (N := aggName) (F := aggFn) Tryz.underlying264 Tryz.underlying3 Tryz.underlying263 rfl c1.2.2.2.2.1 c1.2.2.2.1 Tryz.underlying218 oneAgg (h := hd)
  obtain ⟨el, fr, h3⟩ := heap_of hg hv
  rw [one_of hcs] at h3
  refine ⟨b, el, fr, ms, clock, h3, hb, fun ρ => ?_⟩
  obtain ⟨ms', k1, k2, k3⟩ := five_rel (V := fun i => .agg #[.func (.func (aggFn i)) #[] #[]]) h1 h2
  have fn : ∀ f, VR ρ (.agg [.fn f [] []]) (.agg #[.func (.func f) #[] #[]]) := fun f => by
    simp only [VR]
    exact ⟨[.func (.func f) #[] #[]], rfl, VRs.cons_iff.2 ⟨by simp only [VR]; exact ⟨[], [], rfl, rfl, rfl⟩, rfl⟩⟩
  refine ⟨ms', ?_, ?_, (fun h => by cases h), k3⟩
  · rw [k1]
    have i : ∀ n, VR ρ (.int .i64 n) (.int .i64 n) := fun n => by simp only [VR]
    exact VRs.cons_iff.2 ⟨i 1, VRs.cons_iff.2 ⟨i 2, VRs.cons_iff.2 ⟨i 3, VRs.cons_iff.2 ⟨i 4, VRs.cons_iff.2 ⟨i 5, rfl⟩⟩⟩⟩⟩
  · rw [k2]
    exact VRs.cons_iff.2 ⟨fn 317, VRs.cons_iff.2 ⟨fn 319, VRs.cons_iff.2 ⟨fn 321, VRs.cons_iff.2 ⟨fn 323, VRs.cons_iff.2 ⟨fn 324, rfl⟩⟩⟩⟩⟩
theorem laid_zero {W : World} (hL : laidMetH PP Rows.certifySmallRow.laid W) : ∃ el fr, W.heap[1]? = some (.cells #[.string ⟨[48].toArray⟩, .string ⟨[49].toArray⟩] el fr) := by
  obtain ⟨g, t, cs, fuel, p, hg, ht, hv, hd⟩ := data_of hL (n := "latecomer/answer.zero") (d := _) (by
    show _ ∈ [_, _, _, _, _, _, _, _, _, _, _]
    iterate 8 apply List.mem_cons_of_mem
    exact List.mem_cons_self) rfl
  obtain rfl := Option.some.inj (gZero.symm.trans hg)
  obtain rfl := Option.some.inj (tZero.symm.trans ht)
  obtain ⟨el, fr, h3⟩ := heap_of hg hv
  obtain ⟨xs, n, _, hx, hl, hxl, hel⟩ := DataW.trod_struct Tryz.underlying32 hd
  have hl : cs.toList.length = 2 := hl.trans c2.2.1
  have c9 : PP.cellsOf 9 = 1 := c1.2.1
  simp only [Prod.mk.injEq] at hx
  obtain ⟨hx, _⟩ := hx
  match xs, hxl, hx with
  | [x0, x1], _, hx =>
    match hcs : cs.toList, hl with
    | [u0, u1], _ =>
      have g0 : DataW.trod (fun _ => ()) Tryz.prog W 0 (fun _ => true) false n 9 (([u0, u1].drop 0).take (Tryz.prog.cellsOf 9)) = some x0 := by have := hel 0 _ rfl; rw [hcs] at this; exact this
      have g1 : DataW.trod (fun _ => ()) Tryz.prog W 0 (fun _ => true) false n 9 (([u0, u1].drop 1).take (Tryz.prog.cellsOf 9)) = some x1 := by have := hel 1 _ rfl; rw [hcs] at this; exact this
      rw [show Tryz.prog.cellsOf 9 = 1 from c9] at g0 g1
      simp only [List.drop_zero, List.take_succ_cons, List.take_zero, List.getElem?_cons_zero] at g0
      simp only [List.drop_succ_cons, List.drop_zero, List.take_succ_cons, List.take_zero, List.getElem?_cons_succ, List.getElem?_cons_zero] at g1
      obtain ⟨x0, p0⟩ := x0
      obtain ⟨x1, p1⟩ := x1
      have hx' : ([.lit (.string [48]), .lit (.string [49])] : List (DataW Unit)) = [x0, x1] := by injection hx
      simp only [List.cons.injEq, and_true] at hx'
      obtain ⟨rfl, rfl⟩ := hx'
      have e0 := str_of Tryz.underlying9 g0
      have e1 := str_of Tryz.underlying9 g1
      subst e0 e1
      refine ⟨el, fr, ?_⟩
      rw [h3]
      congr 2
      apply Array.ext'
      exact hcs
theorem laid_round {W : World} (hL : laidMetH PP Rows.certifySmallRow.laid W) : ∃ el fr, W.heap[2]? = some (.cells (Sha.consts.map fun n => Value.int .u32 (Int.ofNat n)).toArray el fr) := by
  obtain ⟨g, t, cs, fuel, p, hg, ht, hv, hd⟩ := data_of hL (n := "latecomer/digest.round") (d := _) (by
    show _ ∈ [_, _, _, _, _, _, _, _, _, _, _]
    iterate 6 apply List.mem_cons_of_mem
    exact List.mem_cons_self) rfl
  obtain rfl := Option.some.inj (gRound.symm.trans hg)
  obtain rfl := Option.some.inj (tRound.symm.trans ht)
  obtain ⟨el, fr, h3⟩ := heap_of hg hv
  have := Lib.cells_of_tab (k := .u32) (zs := Sha.consts.map fun n => Int.ofNat n) Tryz.underlying236 Tryz.underlying159 c1.2.2.2.2.2 c2.2.2.1 hd
  refine ⟨el, fr, ?_⟩
  rw [h3]
  congr 2
  apply Array.ext'
  rw [this, List.map_map]
  rfl
theorem laid_ops {ρ : Env} {W : World} (hρ : FzAll ρ W) (hL : laidMetH PP Rows.certifySmallRow.laid W) : ∃ v el fr, W.heap[0]? = some (.cells #[v] el fr) ∧ VR ρ (.fslice 5 2 opsRow) v ∧ v.oneCell' = true := by
  obtain ⟨g, t, cs, fuel, p, hg, ht, hv, hd⟩ := hL.funcs (n := "latecomer/query.operators") (d := _) (by
    show _ ∈ [_, _, _, _, _, _, _, _, _, _, _]
    iterate 7 apply List.mem_cons_of_mem
    exact List.mem_cons_self)
  obtain rfl := Option.some.inj (gOps.symm.trans hg)
  obtain rfl := Option.some.inj (tOps.symm.trans ht)
  obtain ⟨el, fr, h3⟩ := heap_of hg hv
  rcases open_slice Tryz.underlying99 hd with ⟨_, hx⟩ | ⟨a, len, cap, m, n, D, Pl, hcs, _, hl, _, hm, hx, hel⟩
  · exact absurd hx (fun e => by cases e)
  rw [one_of hcs] at h3
  refine ⟨_, el, fr, h3, ?_, rfl⟩
  simp only [Prod.mk.injEq] at hx
  have hx1 : DataW.slice [.agg [.lit (.string []), .nil], .agg [.lit (.string [61]), .held ((opName 49).1 :: (opName 49).2)], .agg [.lit (.string [33, 61]), .held ((opName 50).1 :: (opName 50).2)], .agg [.lit (.string [60]), .held ((opName 51).1 :: (opName 51).2)], .agg [.lit (.string [62, 61]), .held ((opName 52).1 :: (opName 52).2)]] [] = DataW.slice ((List.range len).map D) ((List.range (m - len)).map fun j => D (len + j)) := hx.1
  have hx2 : [.agg [.lit (.string []), .nil], .agg [.lit (.string [61]), .held ((opName 49).1 :: (opName 49).2)], .agg [.lit (.string [33, 61]), .held ((opName 50).1 :: (opName 50).2)], .agg [.lit (.string [60]), .held ((opName 51).1 :: (opName 51).2)], .agg [.lit (.string [62, 61]), .held ((opName 52).1 :: (opName 52).2)]] = (List.range len).map D := by injection hx1
  have h5 : len = 5 := by have := congrArg List.length hx2; simpa using this.symm
  subst h5
  have dat : ∀ j d, [.agg [.lit (.string []), .nil], .agg [.lit (.string [61]), .held ((opName 49).1 :: (opName 49).2)], .agg [.lit (.string [33, 61]), .held ((opName 50).1 :: (opName 50).2)], .agg [.lit (.string [60]), .held ((opName 51).1 :: (opName 51).2)], .agg [.lit (.string [62, 61]), .held ((opName 52).1 :: (opName 52).2)]][j]? = some d → j < 5 → D j = d := fun j d h hj => by
    rw [hx2, List.getElem?_map, List.getElem?_range hj] at h
    exact Option.some.inj h
  have hle : 5 ≤ m := by rw [hm]; split <;> omega
  have ce : PP.cellsOf 98 = 2 := c2.1
  have str : ∀ s n c p, DataW.trod (funcToken PP) PP W 0 (fun _ => true) true n 9 [c] = some (.lit (.string s), p) → VR ρ.bare (.str s) c ∧ c.oneCell' = true := fun s n c p h => s_of (str_of Tryz.underlying9 h)
  refine fslice_of hρ (by omega) hl fun j hj => ?_
  obtain ⟨cs', h1, h2⟩ := hel j (by omega)
  rw [ce] at h1
  obtain ⟨_, hlen, hc⟩ := World.cells?_some h1
  have cells : ∀ k, k < 2 → W.cell? (a.add (j * 2 + k)) = cs'[k]? := fun k hk => by
    have := hc k hk
    rw [← add_add]; exact this
  have fin : ∀ d0 d1 a0 a1, D j = .agg [d0, d1] → opsRow j = [a0, a1] → (∀ n c p, DataW.trod (funcToken PP) PP W 0 (fun _ => true) true n 9 [c] = some (d0, p) → VR ρ.bare a0 c ∧ c.oneCell' = true) → (∀ n c p, DataW.trod (funcToken PP) PP W 0 (fun _ => true) true n 96 [c] = some (d1, p) → VR ρ.bare a1 c ∧ c.oneCell' = true) →
      ∃ us : List Value, us.length = 2 ∧ (∀ u ∈ us, u.oneCell' = true) ∧ VRs ρ.bare (opsRow j) us ∧ ∀ k, k < 2 → W.cell? (a.add (j * 2 + k)) = us[k]? := fun d0 d1 a0 a1 e1 e2 k0 k1 => by
    obtain ⟨us, rfl, g1, g2, g3⟩ := row_of (ρ := ρ.bare) (a0 := a0) (a1 := a1) Tryz.underlying98 rfl rfl c1.2.1 c1.2.2.1 ce h2 e1 k0 k1
    exact ⟨cs', g1, g2, by rw [e2]; exact g3, cells⟩
  match j, hj with
  | 0, _ => exact fin _ _ _ _ (dat 0 _ rfl (by omega)) rfl (str []) fun n c p h => by rw [nil_of Tryz.underlying96 h]; exact ⟨by simp only [VR], rfl⟩
  | 1, _ => exact fin _ _ _ _ (dat 1 _ rfl (by omega)) rfl (str [61]) fun n c p h => fn_of (func_of_trod Tryz.underlying96 one49 h)
  | 2, _ => exact fin _ _ _ _ (dat 2 _ rfl (by omega)) rfl (str [33, 61]) fun n c p h => fn_of (func_of_trod Tryz.underlying96 one50 h)
  | 3, _ => exact fin _ _ _ _ (dat 3 _ rfl (by omega)) rfl (str [60]) fun n c p h => fn_of (func_of_trod Tryz.underlying96 one51 h)
  | 4, _ => exact fin _ _ _ _ (dat 4 _ rfl (by omega)) rfl (str [62, 61]) fun n c p h => fn_of (func_of_trod Tryz.underlying96 one52 h)
  | j + 5, h => exact absurd h (by omega)
end Go.Sx
end
