/- CertifyRoot is proved, part 34. -/
import Derived.Test.YtleifmkjbmhlpaaGreatDoorX33
set_option linter.unusedVariables false
set_option linter.unusedSimpArgs false
set_option linter.unusedSectionVars false
section
set_option maxRecDepth 1000000
namespace Go.Sx
open Go
end Go.Sx
end
section
set_option maxRecDepth 1000000
namespace Go.Sx
open Go
end Go.Sx
end
section
set_option maxRecDepth 1000000
namespace Go.Sx
open Go
theorem rowsOf_cutRow {cs : List AV} {n e : Nat} (he : 0 < e) (hl : cs.length = n * e) : rowsOf n (cutRow cs e) = cs := by
  have := rowsOf_cut (cs := cs) (o := 0) he (n := n) (by omega)
  simp only [Nat.zero_add, List.drop_zero] at this
  unfold cutRow
  rw [this, ← hl, List.take_length]
theorem Rel.cut {c : Ctx} {ρ : Env} {H : AH} {w : World} {la n e t : Nat} {cs : List AV} (h : Rel c ρ H w) (hb : H.get la = .cells cs (.ty t)) (hl : cs.length = n * e) (he : 0 < e) : Rel c ρ (H.set la (.rows n e (cutRow cs e) (.ty t))) w := by
  have gs : ∀ l, (H.set la (.rows n e (cutRow cs e) (.ty t))).get l = if l = la then .rows n e (cutRow cs e) (.ty t) else H.get l := fun l => AH.get_set H la l _
  have hrw : ∀ l, ((H.set la (.rows n e (cutRow cs e) (.ty t))).get l).rw = (H.get l).rw := fun l => by
    rw [gs]
    by_cases e1 : l = la
    · rw [if_pos e1, e1, hb]; rfl
    · rw [if_neg e1]
  have hd : ∀ l, (H.set la (.rows n e (cutRow cs e) (.ty t))).get l ≠ .dead → H.get l ≠ .dead := fun l => by
    rw [gs]
    by_cases e1 : l = la
    · rw [if_pos e1, e1, hb]; exact fun _ e2 => by cases e2
    · rw [if_neg e1]; exact id
  have hd2 : ∀ l, H.get l = .dead → (H.set la (.rows n e (cutRow cs e) (.ty t))).get l = .dead := fun l hl => by
    rw [gs]
    by_cases e1 : l = la
    · rw [e1, hb] at hl; cases hl
    · rw [if_neg e1]; exact hl
  refine ⟨fun l => ?_, fun l l' r N N' hne hr h1 h2 => ?_, fun l r N hr h1 => ?_, h.keep, h.size, h.os, h.output, h.tape, h.top, h.glob, fun l r N hd' h1 => h.hid l r N (hd l hd') h1, h.env, fun l hl => hd2 l (h.low l hl), h.fro, fun l r N hr h1 => ?_, h.frx, h.frk⟩
  · rw [gs]
    by_cases e1 : l = la
    · subst e1
      rw [if_pos rfl]
      have hk := h.blk l
      rw [hb] at hk
      refine ⟨fun i hi => ?_, ?_⟩
      · simp only [cutRow, List.length_take, List.length_drop]
        have : i * e + e ≤ n * e := by
          have := Nat.mul_le_mul_right e (show i + 1 ≤ n from hi)
          rw [Nat.add_mul, Nat.one_mul] at this; exact this
        omega
      · rw [rowsOf_cutRow he hl]; exact hk
    · rw [if_neg e1]; exact h.blk l
  · rw [hrw] at hr
    exact hd2 l' (h.sep l l' r N N' hne hr h1 h2)
  · rw [hrw] at hr; exact h.prot l r N hr h1
  · rw [hrw] at hr; exact h.frw l r N hr h1
theorem CallGives.cut {f : FuncId} {args : List AV} {H H1 H' : AH} {a : AV} {la n e t : Nat} {cs : List AV} (hb : H.get la = .cells cs (.ty t)) (hl : cs.length = n * e) (he : 0 < e)
    (h : CallGives PP II f args (H.set la (.rows n e (cutRow cs e) (.ty t))) (.ret a H1)) (hn : H'.n = H1.n) (hg : ∀ i, H'.get i = H1.get i) : CallGives PP II f args H (.ret a H') := by
  intro c ρ w vs hG hv hr
  have post : ∀ e w', (CO.ret a H1).post c ρ e w' → (CO.ret a H').post c ρ e w' := fun e w' hp => by
    cases e with
    | returned v => obtain ⟨ρ', k1, k2, k3⟩ := hp; exact ⟨ρ', k1, k2.congr hn hg, k3⟩
    | panicked ch => exact hp.elim
    | outgrown => exact hp.elim
  rcases h c ρ w vs hG hv (hr.cut hb hl he) with ⟨k1, k2⟩ | ⟨v, w', k1, k2⟩
  · exact .inl ⟨k1, k2.mono fun e w' => post e w'⟩
  · exact .inr ⟨v, w', k1, post _ _ k2⟩
end Go.Sx
end
section
set_option maxRecDepth 1000000
namespace Go.Sx
open Go
end Go.Sx
end
