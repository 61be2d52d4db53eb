/- Lemmas, part 19. -/
import Derived.Test.YtoijalagmmgkbaaGreatDoorX17
set_option linter.all false
set_option linter.defProp false
set_option maxRecDepth 1000000
namespace Go.Sx
open Go
open AH renaming blank->M
noncomputable section
def MR(Q):kb [bU] [] 136 [.agg [.str [48],.str [49]]] Q=Q (.bool true):=U
def MS(Q):kb [bU] [] 136 [.agg [.str [49],.str [49,48]]] Q=Q (.bool true):=U
def MT(Q):kb [bU] [] 136 [.agg [.str [49],.str [53]]] Q=Q (.bool true):=U
def MU(Q):kb [bU] [] 136 [.agg [.str [51],.str [49,48]]] Q=Q (.bool true):=U
def MV(Q):kb [bU] [] 136 [.agg [.str [50],.str [53]]] Q=Q (.bool true):=U
def MW(Q):kb [bU] [] 136 [.agg [.str [49],.str [50]]] Q=Q (.bool true):=U
def MX(Q):kb [bU] [] 136 [.agg [.str [51],.str [53]]] Q=Q (.bool true):=U
def MY(Q):kb [bU] [] 136 [.agg [.str [55],.str [49,48]]] Q=Q (.bool true):=U
def MZ(Q):kb [bU] [] 136 [.agg [.str [52],.str [53]]] Q=Q (.bool true):=U
def M0(Q):kb [bU] [] 136 [.agg [.str [57],.str [49,48]]] Q=Q (.bool true):=U
def I3(Q):kb [bU] [] 136 [.agg [.str [49],.str [49]]] Q=Q (.bool true):=U
def M1:af PP II 136 [.agg [.str [48],.str [49]]] (M 12) (.ret (.bool true) (M 12)):=by
 refine bY (ks:=[bU]) (T:=[]) (λ_=>rfl) ?_
 rw[MR]
def M2:af PP II 136 [.agg [.str [49],.str [49,48]]] (M 12) (.ret (.bool true) (M 12)):=by
 refine bY (ks:=[bU]) (T:=[]) (λ_=>rfl) ?_
 rw[MS]
def M3:af PP II 136 [.agg [.str [49],.str [53]]] (M 12) (.ret (.bool true) (M 12)):=by
 refine bY (ks:=[bU]) (T:=[]) (λ_=>rfl) ?_
 rw[MT]
def M4:af PP II 136 [.agg [.str [51],.str [49,48]]] (M 12) (.ret (.bool true) (M 12)):=by
 refine bY (ks:=[bU]) (T:=[]) (λ_=>rfl) ?_
 rw[MU]
def M5:af PP II 136 [.agg [.str [50],.str [53]]] (M 12) (.ret (.bool true) (M 12)):=by
 refine bY (ks:=[bU]) (T:=[]) (λ_=>rfl) ?_
 rw[MV]
def M6:af PP II 136 [.agg [.str [49],.str [50]]] (M 12) (.ret (.bool true) (M 12)):=by
 refine bY (ks:=[bU]) (T:=[]) (λ_=>rfl) ?_
 rw[MW]
def M7:af PP II 136 [.agg [.str [51],.str [53]]] (M 12) (.ret (.bool true) (M 12)):=by
 refine bY (ks:=[bU]) (T:=[]) (λ_=>rfl) ?_
 rw[MX]
def M8:af PP II 136 [.agg [.str [55],.str [49,48]]] (M 12) (.ret (.bool true) (M 12)):=by
 refine bY (ks:=[bU]) (T:=[]) (λ_=>rfl) ?_
 rw[MY]
def M9:af PP II 136 [.agg [.str [52],.str [53]]] (M 12) (.ret (.bool true) (M 12)):=by
 refine bY (ks:=[bU]) (T:=[]) (λ_=>rfl) ?_
 rw[MZ]
def Na:af PP II 136 [.agg [.str [57],.str [49,48]]] (M 12) (.ret (.bool true) (M 12)):=by
 refine bY (ks:=[bU]) (T:=[]) (λ_=>rfl) ?_
 rw[M0]
def I4:af PP II 136 [.agg [.str [49],.str [49]]] (M 12) (.ret (.bool true) (M 12)):=by
 refine bY (ks:=[bU]) (T:=[]) (λ_=>rfl) ?_
 rw[I3]
def Qk{k}(a:k<=10):af PP II 136 [.agg [.str (wy k),.str (wz k)]] (M 12) (.ret (.bool true) (M 12)):=by
 match k,a with
 |0,_=>exact M1
 |1,_=>exact M2
 |2,_=>exact M3
 |3,_=>exact M4
 |4,_=>exact M5
 |5,_=>exact M6
 |6,_=>exact M7
 |7,_=>exact M8
 |8,_=>exact M9
 |9,_=>exact Na
 |10,_=>exact I4
 |k+11,h=>omega
end
end Go.Sx
