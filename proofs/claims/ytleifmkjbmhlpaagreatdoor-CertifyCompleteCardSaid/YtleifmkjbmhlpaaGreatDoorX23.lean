/- The proof of a statement of the seat, part 23. -/
import Derived.Test.YtleifmkjbmhlpaaGreatDoorX21
set_option linter.all false
set_option linter.defProp false
set_option maxRecDepth 1000000
namespace Go.Sx
open Go
open AH renaming blank->M
noncomputable section
def RZ(Q):kb [bt] [] 75 [.agg [.str [48],.str [49]]] Q=Q (.bool true):=U
def R1(Q):kb [bt] [] 75 [.agg [.str [49],.str [49,48]]] Q=Q (.bool true):=U
def R2(Q):kb [bt] [] 75 [.agg [.str [49],.str [53]]] Q=Q (.bool true):=U
def R3(Q):kb [bt] [] 75 [.agg [.str [51],.str [49,48]]] Q=Q (.bool true):=U
def R4(Q):kb [bt] [] 75 [.agg [.str [50],.str [53]]] Q=Q (.bool true):=U
def R5(Q):kb [bt] [] 75 [.agg [.str [49],.str [50]]] Q=Q (.bool true):=U
def R6(Q):kb [bt] [] 75 [.agg [.str [51],.str [53]]] Q=Q (.bool true):=U
def R7(Q):kb [bt] [] 75 [.agg [.str [55],.str [49,48]]] Q=Q (.bool true):=U
def R8(Q):kb [bt] [] 75 [.agg [.str [52],.str [53]]] Q=Q (.bool true):=U
def R9(Q):kb [bt] [] 75 [.agg [.str [57],.str [49,48]]] Q=Q (.bool true):=U
def Nv(Q):kb [bt] [] 75 [.agg [.str [49],.str [49]]] Q=Q (.bool true):=U
def Sa:af PP II 75 [.agg [.str [48],.str [49]]] (M 12) (.ret (.bool true) (M 12)):=by
 refine bQ (ks:=[bt]) (T:=[]) (λ_=>rfl) ?_;rw[RZ]
def Sb:af PP II 75 [.agg [.str [49],.str [49,48]]] (M 12) (.ret (.bool true) (M 12)):=by
 refine bQ (ks:=[bt]) (T:=[]) (λ_=>rfl) ?_;rw[R1]
def Sc:af PP II 75 [.agg [.str [49],.str [53]]] (M 12) (.ret (.bool true) (M 12)):=by
 refine bQ (ks:=[bt]) (T:=[]) (λ_=>rfl) ?_;rw[R2]
def Sd:af PP II 75 [.agg [.str [51],.str [49,48]]] (M 12) (.ret (.bool true) (M 12)):=by
 refine bQ (ks:=[bt]) (T:=[]) (λ_=>rfl) ?_;rw[R3]
def Se:af PP II 75 [.agg [.str [50],.str [53]]] (M 12) (.ret (.bool true) (M 12)):=by
 refine bQ (ks:=[bt]) (T:=[]) (λ_=>rfl) ?_;rw[R4]
def Sf:af PP II 75 [.agg [.str [49],.str [50]]] (M 12) (.ret (.bool true) (M 12)):=by
 refine bQ (ks:=[bt]) (T:=[]) (λ_=>rfl) ?_;rw[R5]
def Sg:af PP II 75 [.agg [.str [51],.str [53]]] (M 12) (.ret (.bool true) (M 12)):=by
 refine bQ (ks:=[bt]) (T:=[]) (λ_=>rfl) ?_;rw[R6]
def Sh:af PP II 75 [.agg [.str [55],.str [49,48]]] (M 12) (.ret (.bool true) (M 12)):=by
 refine bQ (ks:=[bt]) (T:=[]) (λ_=>rfl) ?_;rw[R7]
def Si:af PP II 75 [.agg [.str [52],.str [53]]] (M 12) (.ret (.bool true) (M 12)):=by
 refine bQ (ks:=[bt]) (T:=[]) (λ_=>rfl) ?_;rw[R8]
def Sj:af PP II 75 [.agg [.str [57],.str [49,48]]] (M 12) (.ret (.bool true) (M 12)):=by
 refine bQ (ks:=[bt]) (T:=[]) (λ_=>rfl) ?_;rw[R9]
def Nw:af PP II 75 [.agg [.str [49],.str [49]]] (M 12) (.ret (.bool true) (M 12)):=by
 refine bQ (ks:=[bt]) (T:=[]) (λ_=>rfl) ?_;rw[Nv]
def Vu{k}(a:k<=10):af PP II 75 [.agg [.str (zj k),.str (zk k)]] (M 12) (.ret (.bool true) (M 12)):=by
 match k,a with
 |0,_=>exact Sa
 |1,_=>exact Sb
 |2,_=>exact Sc
 |3,_=>exact Sd
 |4,_=>exact Se
 |5,_=>exact Sf
 |6,_=>exact Sg
 |7,_=>exact Sh
 |8,_=>exact Si
 |9,_=>exact Sj
 |10,_=>exact Nw
 |k+11,h=>omega
end
end Go.Sx
