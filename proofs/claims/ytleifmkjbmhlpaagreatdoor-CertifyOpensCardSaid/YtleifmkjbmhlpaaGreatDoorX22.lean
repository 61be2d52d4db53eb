/- CertifyOpens is proved, part 22. -/
import Derived.Test.YtleifmkjbmhlpaaGreatDoorX20
set_option linter.unusedVariables false
set_option linter.unusedSimpArgs false
set_option linter.unusedSectionVars false
section
set_option maxRecDepth 1000000
namespace Go.Sx
open Go
theorem part_vc0 (Q:AV→Prop): kb [kNoEscape] [] 75 [.agg [.str [48],.str [49]]] Q=Q (.bool true):=by kernel_rfl
theorem part_vc1 (Q:AV→Prop): kb [kNoEscape] [] 75 [.agg [.str [49],.str [49,48]]] Q=Q (.bool true):=by kernel_rfl
theorem part_vc2 (Q:AV→Prop): kb [kNoEscape] [] 75 [.agg [.str [49],.str [53]]] Q=Q (.bool true):=by kernel_rfl
theorem part_vc3 (Q:AV→Prop): kb [kNoEscape] [] 75 [.agg [.str [51],.str [49,48]]] Q=Q (.bool true):=by kernel_rfl
theorem part_vc4 (Q:AV→Prop): kb [kNoEscape] [] 75 [.agg [.str [50],.str [53]]] Q=Q (.bool true):=by kernel_rfl
theorem part_vc5 (Q:AV→Prop): kb [kNoEscape] [] 75 [.agg [.str [49],.str [50]]] Q=Q (.bool true):=by kernel_rfl
theorem part_vc6 (Q:AV→Prop): kb [kNoEscape] [] 75 [.agg [.str [51],.str [53]]] Q=Q (.bool true):=by kernel_rfl
theorem part_vc7 (Q:AV→Prop): kb [kNoEscape] [] 75 [.agg [.str [55],.str [49,48]]] Q=Q (.bool true):=by kernel_rfl
theorem part_vc8 (Q:AV→Prop): kb [kNoEscape] [] 75 [.agg [.str [52],.str [53]]] Q=Q (.bool true):=by kernel_rfl
theorem part_vc9 (Q:AV→Prop): kb [kNoEscape] [] 75 [.agg [.str [57],.str [49,48]]] Q=Q (.bool true):=by kernel_rfl
theorem part_vc10 (Q:AV→Prop): kb [kNoEscape] [] 75 [.agg [.str [49],.str [49]]] Q=Q (.bool true):=by kernel_rfl
theorem part_at0:CallGives PP II 75 [.agg [.str [48],.str [49]]] (AH.blank 12) (.ret (.bool true) (AH.blank 12)):=by
 refine of_kb (ks:=[kNoEscape]) (T:=[]) (fun _=>rfl) ?_
 rw [part_vc0]
theorem part_at1:CallGives PP II 75 [.agg [.str [49],.str [49,48]]] (AH.blank 12) (.ret (.bool true) (AH.blank 12)):=by
 refine of_kb (ks:=[kNoEscape]) (T:=[]) (fun _=>rfl) ?_
 rw [part_vc1]
theorem part_at2:CallGives PP II 75 [.agg [.str [49],.str [53]]] (AH.blank 12) (.ret (.bool true) (AH.blank 12)):=by
 refine of_kb (ks:=[kNoEscape]) (T:=[]) (fun _=>rfl) ?_
 rw [part_vc2]
theorem part_at3:CallGives PP II 75 [.agg [.str [51],.str [49,48]]] (AH.blank 12) (.ret (.bool true) (AH.blank 12)):=by
 refine of_kb (ks:=[kNoEscape]) (T:=[]) (fun _=>rfl) ?_
 rw [part_vc3]
theorem part_at4:CallGives PP II 75 [.agg [.str [50],.str [53]]] (AH.blank 12) (.ret (.bool true) (AH.blank 12)):=by
 refine of_kb (ks:=[kNoEscape]) (T:=[]) (fun _=>rfl) ?_
 rw [part_vc4]
theorem part_at5:CallGives PP II 75 [.agg [.str [49],.str [50]]] (AH.blank 12) (.ret (.bool true) (AH.blank 12)):=by
 refine of_kb (ks:=[kNoEscape]) (T:=[]) (fun _=>rfl) ?_
 rw [part_vc5]
theorem part_at6:CallGives PP II 75 [.agg [.str [51],.str [53]]] (AH.blank 12) (.ret (.bool true) (AH.blank 12)):=by
 refine of_kb (ks:=[kNoEscape]) (T:=[]) (fun _=>rfl) ?_
 rw [part_vc6]
theorem part_at7:CallGives PP II 75 [.agg [.str [55],.str [49,48]]] (AH.blank 12) (.ret (.bool true) (AH.blank 12)):=by
 refine of_kb (ks:=[kNoEscape]) (T:=[]) (fun _=>rfl) ?_
 rw [part_vc7]
theorem part_at8:CallGives PP II 75 [.agg [.str [52],.str [53]]] (AH.blank 12) (.ret (.bool true) (AH.blank 12)):=by
 refine of_kb (ks:=[kNoEscape]) (T:=[]) (fun _=>rfl) ?_
 rw [part_vc8]
theorem part_at9:CallGives PP II 75 [.agg [.str [57],.str [49,48]]] (AH.blank 12) (.ret (.bool true) (AH.blank 12)):=by
 refine of_kb (ks:=[kNoEscape]) (T:=[]) (fun _=>rfl) ?_
 rw [part_vc9]
theorem part_at10:CallGives PP II 75 [.agg [.str [49],.str [49]]] (AH.blank 12) (.ret (.bool true) (AH.blank 12)):=by
 refine of_kb (ks:=[kNoEscape]) (T:=[]) (fun _=>rfl) ?_
 rw [part_vc10]
theorem part_ok {k:Nat} (hk:k≤10): CallGives PP II 75 [.agg [.str (tenN k),.str (tenD k)]] (AH.blank 12) (.ret (.bool true) (AH.blank 12)):=by
 match k,hk with
 | 0,_=>exact part_at0
 | 1,_=>exact part_at1
 | 2,_=>exact part_at2
 | 3,_=>exact part_at3
 | 4,_=>exact part_at4
 | 5,_=>exact part_at5
 | 6,_=>exact part_at6
 | 7,_=>exact part_at7
 | 8,_=>exact part_at8
 | 9,_=>exact part_at9
 | 10,_=>exact part_at10
 | k+11,h=>exact absurd h (by omega)
end Go.Sx
end
