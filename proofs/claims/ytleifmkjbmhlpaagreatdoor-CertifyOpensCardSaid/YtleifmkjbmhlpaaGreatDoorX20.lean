/- CertifyOpens is proved, part 20. -/
import Derived.Test.YtleifmkjbmhlpaaGreatDoorX19
set_option linter.unusedVariables false
set_option linter.unusedSimpArgs false
set_option linter.unusedSectionVars false
section
set_option maxRecDepth 1000000
namespace Go.Sx
open Go
theorem of68_vc0 (Q:AV→Prop): kb [] [] 68 [.int .i64 0,.int .i64 10] Q=Q (.tup [.agg [.str [48],.str [49]],.int .i64 0]):=by kernel_rfl
theorem of68_vc1 (Q:AV→Prop): kb [] [] 68 [.int .i64 1,.int .i64 10] Q=Q (.tup [.agg [.str [49],.str [49,48]],.int .i64 0]):=by kernel_rfl
theorem of68_vc2 (Q:AV→Prop): kb [] [] 68 [.int .i64 2,.int .i64 10] Q=Q (.tup [.agg [.str [49],.str [53]],.int .i64 0]):=by kernel_rfl
theorem of68_vc3 (Q:AV→Prop): kb [] [] 68 [.int .i64 3,.int .i64 10] Q=Q (.tup [.agg [.str [51],.str [49,48]],.int .i64 0]):=by kernel_rfl
theorem of68_vc4 (Q:AV→Prop): kb [] [] 68 [.int .i64 4,.int .i64 10] Q=Q (.tup [.agg [.str [50],.str [53]],.int .i64 0]):=by kernel_rfl
theorem of68_vc5 (Q:AV→Prop): kb [] [] 68 [.int .i64 5,.int .i64 10] Q=Q (.tup [.agg [.str [49],.str [50]],.int .i64 0]):=by kernel_rfl
theorem of68_vc6 (Q:AV→Prop): kb [] [] 68 [.int .i64 6,.int .i64 10] Q=Q (.tup [.agg [.str [51],.str [53]],.int .i64 0]):=by kernel_rfl
theorem of68_vc7 (Q:AV→Prop): kb [] [] 68 [.int .i64 7,.int .i64 10] Q=Q (.tup [.agg [.str [55],.str [49,48]],.int .i64 0]):=by kernel_rfl
theorem of68_vc8 (Q:AV→Prop): kb [] [] 68 [.int .i64 8,.int .i64 10] Q=Q (.tup [.agg [.str [52],.str [53]],.int .i64 0]):=by kernel_rfl
theorem of68_vc9 (Q:AV→Prop): kb [] [] 68 [.int .i64 9,.int .i64 10] Q=Q (.tup [.agg [.str [57],.str [49,48]],.int .i64 0]):=by kernel_rfl
theorem of68_vc10 (Q:AV→Prop): kb [] [] 68 [.int .i64 10,.int .i64 10] Q=Q (.tup [.agg [.str [49],.str [49]],.int .i64 0]):=by kernel_rfl
theorem of68_at0:CallGives PP II 68 [.int .i64 0,.int .i64 10] (AH.blank 12) (.ret (.tup [.agg [.str [48],.str [49]],.int .i64 0]) (AH.blank 12)):=by
 refine of_kb (ks:=[]) (T:=[]) (fun _=>⟨⟨rfl,rfl,trivial⟩,⟨rfl,rfl⟩,trivial⟩) ?_
 rw [of68_vc0]
theorem of68_at1:CallGives PP II 68 [.int .i64 1,.int .i64 10] (AH.blank 12) (.ret (.tup [.agg [.str [49],.str [49,48]],.int .i64 0]) (AH.blank 12)):=by
 refine of_kb (ks:=[]) (T:=[]) (fun _=>⟨⟨rfl,rfl,trivial⟩,⟨rfl,rfl⟩,trivial⟩) ?_
 rw [of68_vc1]
theorem of68_at2:CallGives PP II 68 [.int .i64 2,.int .i64 10] (AH.blank 12) (.ret (.tup [.agg [.str [49],.str [53]],.int .i64 0]) (AH.blank 12)):=by
 refine of_kb (ks:=[]) (T:=[]) (fun _=>⟨⟨rfl,rfl,trivial⟩,⟨rfl,rfl⟩,trivial⟩) ?_
 rw [of68_vc2]
theorem of68_at3:CallGives PP II 68 [.int .i64 3,.int .i64 10] (AH.blank 12) (.ret (.tup [.agg [.str [51],.str [49,48]],.int .i64 0]) (AH.blank 12)):=by
 refine of_kb (ks:=[]) (T:=[]) (fun _=>⟨⟨rfl,rfl,trivial⟩,⟨rfl,rfl⟩,trivial⟩) ?_
 rw [of68_vc3]
theorem of68_at4:CallGives PP II 68 [.int .i64 4,.int .i64 10] (AH.blank 12) (.ret (.tup [.agg [.str [50],.str [53]],.int .i64 0]) (AH.blank 12)):=by
 refine of_kb (ks:=[]) (T:=[]) (fun _=>⟨⟨rfl,rfl,trivial⟩,⟨rfl,rfl⟩,trivial⟩) ?_
 rw [of68_vc4]
theorem of68_at5:CallGives PP II 68 [.int .i64 5,.int .i64 10] (AH.blank 12) (.ret (.tup [.agg [.str [49],.str [50]],.int .i64 0]) (AH.blank 12)):=by
 refine of_kb (ks:=[]) (T:=[]) (fun _=>⟨⟨rfl,rfl,trivial⟩,⟨rfl,rfl⟩,trivial⟩) ?_
 rw [of68_vc5]
theorem of68_at6:CallGives PP II 68 [.int .i64 6,.int .i64 10] (AH.blank 12) (.ret (.tup [.agg [.str [51],.str [53]],.int .i64 0]) (AH.blank 12)):=by
 refine of_kb (ks:=[]) (T:=[]) (fun _=>⟨⟨rfl,rfl,trivial⟩,⟨rfl,rfl⟩,trivial⟩) ?_
 rw [of68_vc6]
theorem of68_at7:CallGives PP II 68 [.int .i64 7,.int .i64 10] (AH.blank 12) (.ret (.tup [.agg [.str [55],.str [49,48]],.int .i64 0]) (AH.blank 12)):=by
 refine of_kb (ks:=[]) (T:=[]) (fun _=>⟨⟨rfl,rfl,trivial⟩,⟨rfl,rfl⟩,trivial⟩) ?_
 rw [of68_vc7]
theorem of68_at8:CallGives PP II 68 [.int .i64 8,.int .i64 10] (AH.blank 12) (.ret (.tup [.agg [.str [52],.str [53]],.int .i64 0]) (AH.blank 12)):=by
 refine of_kb (ks:=[]) (T:=[]) (fun _=>⟨⟨rfl,rfl,trivial⟩,⟨rfl,rfl⟩,trivial⟩) ?_
 rw [of68_vc8]
theorem of68_at9:CallGives PP II 68 [.int .i64 9,.int .i64 10] (AH.blank 12) (.ret (.tup [.agg [.str [57],.str [49,48]],.int .i64 0]) (AH.blank 12)):=by
 refine of_kb (ks:=[]) (T:=[]) (fun _=>⟨⟨rfl,rfl,trivial⟩,⟨rfl,rfl⟩,trivial⟩) ?_
 rw [of68_vc9]
theorem of68_at10:CallGives PP II 68 [.int .i64 10,.int .i64 10] (AH.blank 12) (.ret (.tup [.agg [.str [49],.str [49]],.int .i64 0]) (AH.blank 12)):=by
 refine of_kb (ks:=[]) (T:=[]) (fun _=>⟨⟨rfl,rfl,trivial⟩,⟨rfl,rfl⟩,trivial⟩) ?_
 rw [of68_vc10]
def tenN (k:Nat): List UInt8:=match k with | 0=>[48] | 1=>[49] | 2=>[49] | 3=>[51] | 4=>[50] | 5=>[49] | 6=>[51] | 7=>[55] | 8=>[52] | 9=>[57] | 10=>[49] | _=>[]
def tenD (k:Nat): List UInt8:=match k with | 0=>[49] | 1=>[49,48] | 2=>[53] | 3=>[49,48] | 4=>[53] | 5=>[50] | 6=>[53] | 7=>[49,48] | 8=>[53] | 9=>[49,48] | 10=>[49] | _=>[]
theorem of68_ok {k:Nat} (hk:k≤10): CallGives PP II 68 [.int .i64 k,.int .i64 10] (AH.blank 12) (.ret (.tup [.agg [.str (tenN k),.str (tenD k)],.int .i64 0]) (AH.blank 12)):=by
 match k,hk with
 | 0,_=>exact of68_at0
 | 1,_=>exact of68_at1
 | 2,_=>exact of68_at2
 | 3,_=>exact of68_at3
 | 4,_=>exact of68_at4
 | 5,_=>exact of68_at5
 | 6,_=>exact of68_at6
 | 7,_=>exact of68_at7
 | 8,_=>exact of68_at8
 | 9,_=>exact of68_at9
 | 10,_=>exact of68_at10
 | k+11,h=>exact absurd h (by omega)
noncomputable def kOf68:Known PP II:=Known.pure 68
 (fun X args kn=>match args with
  | [.int .i64 k,.int .i64 d]=>X.assert (decide (0≤k)&&decide (k≤10)&&decide (d=10)) (kn (.tup [.agg [.str (tenN k.toNat),.str (tenD k.toNat)],.int .i64 0]))
  | _=>X.fail)
 fun X sem hX args kn h=>by
  split at h
  ·rename_i k d
   obtain ⟨h1,h2⟩:=hX.assert _ _ h
   simp only [Bool.and_eq_true,decide_eq_true_eq] at h1
   obtain ⟨⟨h3,h4⟩,h5⟩:=h1
   have:=of68_ok (k:=k.toNat) (by omega)
   rw [Int.toNat_of_nonneg h3] at this
   rw [h5]
   exact ⟨_,h2,fun _=>rfl,fun _=>rfl,this⟩
  ·exact absurd h hX.fail
end Go.Sx
end
