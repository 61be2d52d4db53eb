/- CertifyOpens is proved, part 29. -/
import Derived.Test.YtleifmkjbmhlpaaGreatDoorX19
set_option linter.unusedVariables false
set_option linter.unusedSimpArgs false
set_option linter.unusedSectionVars false
section
set_option maxRecDepth 1000000
namespace Go.Sx
open Go
theorem of11_vc (Q:AV→Prop): kb [kNoEscape] [] 328 [.int .i64 1,.int .i64 1] Q=Q (.tup [.agg [.str [49],.str [49]],.int .i64 0]):=by kernel_rfl
theorem of31_vc (Q:AV→Prop): kb [kNoEscape] [] 328 [.int .i64 3,.int .i64 1] Q=Q (.tup [.agg [.str [51],.str [49]],.int .i64 0]):=by kernel_rfl
theorem of11_ok:CallGives PP II 328 [.int .i64 1,.int .i64 1] (AH.blank 12) (.ret (.tup [.agg [.str [49],.str [49]],.int .i64 0]) (AH.blank 12)):=by
 refine of_kb (ks:=[kNoEscape]) (T:=[]) (fun _=>⟨⟨rfl,rfl,trivial⟩,⟨rfl,rfl⟩,trivial⟩) ?_
 rw [of11_vc]
theorem of31_ok:CallGives PP II 328 [.int .i64 3,.int .i64 1] (AH.blank 12) (.ret (.tup [.agg [.str [51],.str [49]],.int .i64 0]) (AH.blank 12)):=by
 refine of_kb (ks:=[kNoEscape]) (T:=[]) (fun _=>⟨⟨rfl,rfl,trivial⟩,⟨rfl,rfl⟩,trivial⟩) ?_
 rw [of31_vc]
noncomputable def kOf13:Known PP II:=Known.pure 328
 (fun X args kn=>match args with
  | [.int .i64 n,.int .i64 d]=>X.assert (decide (d=1)) (bif decide (n=1) then kn (.tup [.agg [.str [49],.str [49]],.int .i64 0]) else X.assert (decide (n=3)) (kn (.tup [.agg [.str [51],.str [49]],.int .i64 0])))
  | _=>X.fail)
 fun X sem hX args kn h=>by
  split at h
  ·rename_i n d
   obtain ⟨hd,h2⟩:=hX.assert _ _ h
   have hd:=of_decide_eq_true hd
   subst hd
   cases h1:decide (n=1) with
   | true=>
    rw [h1,cond_true] at h2
    have:=of_decide_eq_true h1
    subst this
    exact ⟨_,h2,fun _=>rfl,fun _=>rfl,of11_ok⟩
   | false=>
    rw [h1,cond_false] at h2
    obtain ⟨h3,h4⟩:=hX.assert _ _ h2
    have h3:=of_decide_eq_true h3
    subst h3
    exact ⟨_,h4,fun _=>rfl,fun _=>rfl,of31_ok⟩
  ·exact absurd h hX.fail
end Go.Sx
end
