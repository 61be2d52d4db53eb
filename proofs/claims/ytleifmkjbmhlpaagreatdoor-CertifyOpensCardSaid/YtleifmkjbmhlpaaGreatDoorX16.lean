/- CertifyOpens is proved, part 16. -/
import Derived.Test.YtleifmkjbmhlpaaGreatDoorX15
set_option linter.unusedVariables false
set_option linter.unusedSimpArgs false
set_option linter.unusedSectionVars false
section
set_option maxRecDepth 1000000
namespace Go.Sx
open Go
def okI (n:Int): Bool:=decide (-4611686018427387903≤n)&&decide (n≤4611686018427387903)
theorem intsF_len : ∀ l:List Int,(intsF l).length≤10*l.length
 | []=>by simp [intsF]
 | a::l=>by
  have:=intsF_len l
  have h:=putF_len a
  simp only [intsF,List.flatMap_cons,List.length_append,List.length_cons] at*
  omega
def factOk (x:Fact): Bool:=okI x.t&&okI x.s&&okI x.v&&okI x.w&&okI x.o&&okI x.p&&okI x.d&&okI x.l&&okI x.h&&okI x.b
def factInts (x:Fact): List Int:=[x.t,x.s,x.v,x.w,x.o,x.p,x.d,x.l,x.h,x.b]
def loI (x:Fact) (j:Nat): Int:=match j with | 0=>x.t | 1=>x.v | 2=>x.w | 3=>x.o | 4=>x.p | 5=>x.d | 6=>x.b | 7=>x.l | _=>0
def hiI (x:Fact) (j:Nat): Int:=match j with | 0=>x.t | 1=>x.v | 2=>x.w | 3=>x.o | 4=>x.p | 5=>x.d | 6=>x.b | 7=>x.h | _=>0
def leafF (x:Fact): Node:=⟨loI x,hiI x,sumF (intsF (factInts x)),[]⟩
theorem nodeAV_le (σ:Nat→Nat) (x:Node): AVs.le σ (nodeAV x) (nodeAV x):=
 ⟨⟨rfl,rfl⟩,⟨rfl,rfl⟩,⟨rfl,rfl⟩,⟨rfl,rfl⟩,⟨rfl,rfl⟩,⟨rfl,rfl⟩,⟨rfl,rfl⟩,⟨rfl,rfl⟩,⟨rfl,rfl⟩,⟨rfl,rfl⟩,⟨rfl,rfl⟩,⟨rfl,rfl⟩,⟨rfl,rfl⟩,⟨rfl,rfl⟩,⟨rfl,rfl⟩,⟨rfl,rfl⟩,rfl,rfl,trivial⟩
theorem leaf_ok {x:Fact} (h:factOk x=true): CallGives PP II 72 [.agg (factAV x)] HB (.ret (.agg (nodeAV (leafF x))) HB):=by
 refine of_kh (ks:=[kInts,kSum]) (T:=[]) (fun σ=>nodeAV_le σ _) ?_
 rw [leaf_vc x]
 have hl:=intsF_len (factInts x)
 simp only [factOk,okI,Bool.and_eq_true,decide_eq_true_eq] at h
 refine Asks.mk ?_ (Asks.mk ?_ (Asks.mk ?_ (Asks.mk ?_ ?_)))
 ·simp only [Bool.and_eq_true,decide_eq_true_eq,and_true];simp only [h,and_self]
 ·simp only [decide_true,Bool.and_self]
 ·have e:(factInts x).length=10:=rfl
  exact Nat.ble_eq_true_of_le (by show (intsF (factInts x)).length≤_;omega)
 ·simp only [decide_true,Bool.and_self]
 ·rfl
def nodeOk (x:Node): Bool:=okI (x.lo 0)&&okI (x.lo 1)&&okI (x.lo 2)&&okI (x.lo 3)&&okI (x.lo 4)&&okI (x.lo 5)&&okI (x.lo 6)&&okI (x.lo 7)&&okI (x.hi 0)&&okI (x.hi 1)&&okI (x.hi 2)&&okI (x.hi 3)&&okI (x.hi 4)&&okI (x.hi 5)&&okI (x.hi 6)&&okI (x.hi 7)&&Nat.ble x.l.length 1000&&Nat.ble x.r.length 1000
def boundB (x:Node) (j:Nat): List UInt8:=intsF [x.lo j,x.hi j]
def boundsB (x:Node) (p:UInt8): List UInt8:=sapp (sapp (sapp (sapp (sapp (sapp (sapp (sapp (sapp [] [p]) (boundB x 0)) (boundB x 1)) (boundB x 2)) (boundB x 3)) (boundB x 4)) (boundB x 5)) (boundB x 6)) (boundB x 7)
def digF (x:Node): List UInt8:=sumF (sapp (sapp (boundsB x (bif List.beq x.r [] then 5 else 6)) x.l) x.r)
theorem intAsk {a b:Int} (ha:okI a=true) (hb:okI b=true): (decide (-4611686018427387903≤a)&&decide (a≤4611686018427387903)&&(decide (-4611686018427387903≤b)&&decide (b≤4611686018427387903)&&true)&&true&&true)=true:=by
 unfold okI at ha hb
 rw [ha,hb];rfl
theorem appAsk {n m k:Nat} (h1:n=m) (h2:n≤1000) (h3:k≤20): (decide (n≤m)&&true&&true&&decide ((n+k)*1≤140737488355328)&&(decide (n=m)&&true))=true:=by
 rw [decide_eq_true (show n≤m by omega),decide_eq_true (show (n+k)*1≤140737488355328 by omega),decide_eq_true h1];rfl
theorem eqAsk (n:Nat): (decide (n=n)&&true)=true:=by rw [decide_eq_true rfl];rfl
theorem strAsk {n m:Nat} (h1:n=m) (h2:0<n) (h3:n≤1000): (decide (Int.toNat (Int.ofNat n)=m)&&true&&true&&decide (0<Int.ofNat n)&&decide (Int.ofNat n≤9223372036854775807)&&true)=true:=by
 have e:Int.toNat (Int.ofNat n)=n:=rfl
 have e2:Int.ofNat n=(n:Int):=rfl
 rw [e,e2,decide_eq_true h1,decide_eq_true (show (0:Int)<n by omega),decide_eq_true (show (n:Int)≤9223372036854775807 by omega)];rfl
theorem boundB_len (x:Node) (j:Nat): (intsF [x.lo j,x.hi j]).length≤20:=intsF_len _
theorem sapp_len (a b:List UInt8): (sapp a b).length=a.length+b.length:=List.length_append
theorem dig42_ok {x:Node} (h:nodeOk x=true): CallGives PP II 42 [.agg (nodeAV x)] HB (.ret (.str (digF x)) HB):=by
 refine of_kh (ks:=[kInts,kSum,kNoEscape]) (T:=[]) (fun σ=>rfl) ?_
 rw [dig42_vc x]
 simp only [nodeOk,Bool.and_eq_true] at h
 obtain ⟨⟨⟨⟨⟨⟨⟨⟨⟨⟨⟨⟨⟨⟨⟨⟨⟨a0,a1⟩,a2⟩,a3⟩,a4⟩,a5⟩,a6⟩,a7⟩,c0⟩,c1⟩,c2⟩,c3⟩,c4⟩,c5⟩,c6⟩,c7⟩,hl⟩,hr⟩:=h
 have hl:=Nat.le_of_ble_eq_true hl
 have hr:=Nat.le_of_ble_eq_true hr
 have b0:=boundB_len x 0
 have b1:=boundB_len x 1
 have b2:=boundB_len x 2
 have b3:=boundB_len x 3
 have b4:=boundB_len x 4
 have b5:=boundB_len x 5
 have b6:=boundB_len x 6
 have b7:=boundB_len x 7
 refine Cond.mk (fun h=>?_) fun h=>?_
 all_goals
  refine Asks.mk (intAsk a0 c0) (Asks.mk (appAsk (by rfl) (by omega) b0) ?_)
  refine Asks.mk (intAsk a1 c1) (Asks.mk (appAsk (by simp only [sapp_len];rfl) (by omega) b1) ?_)
  refine Asks.mk (intAsk a2 c2) (Asks.mk (appAsk (by simp only [sapp_len];rfl) (by omega) b2) ?_)
  refine Asks.mk (intAsk a3 c3) (Asks.mk (appAsk (by simp only [sapp_len];rfl) (by omega) b3) ?_)
  refine Asks.mk (intAsk a4 c4) (Asks.mk (appAsk (by simp only [sapp_len];rfl) (by omega) b4) ?_)
  refine Asks.mk (intAsk a5 c5) (Asks.mk (appAsk (by simp only [sapp_len];rfl) (by omega) b5) ?_)
  refine Asks.mk (intAsk a6 c6) (Asks.mk (appAsk (by simp only [sapp_len];rfl) (by omega) b6) ?_)
  refine Asks.mk (intAsk a7 c7) (Asks.mk (appAsk (by simp only [sapp_len];rfl) (by omega) b7) ?_)
  refine Asks.mk (decide_eq_true (by omega)) (Asks.mk (eqAsk _) (Asks.mk (decide_eq_true rfl) (Asks.mk (strAsk (by simp only [sapp_len];rfl) (by omega) (by omega)) (Asks.mk (decide_eq_true rfl) (Asks.mk (decide_eq_true (by simp only [sapp_len,List.length_cons,List.length_nil];omega)) (Asks.mk (decide_eq_true rfl) (Asks.mk (decide_eq_true (by simp only [sapp_len,List.length_cons,List.length_nil];omega)) (Asks.mk (Nat.ble_eq_true_of_le (by simp only [sapp_len,List.length_cons,List.length_nil];omega)) ?_))))))))
  unfold digF
  rw [h]
  rfl
noncomputable def kLeaf:Known PP II:=Known.onHB 72
 (fun X args kn=>match args with
  | [.agg cs]=>match toFact cs with
   | some x=>X.assert (factOk x) (kn (.agg (nodeAV (leafF x))))
   | none=>X.fail
  | _=>X.fail)
 fun X sem hX args kn h=>by
  split at h
  ·rename_i cs
   split at h
   ·rename_i x hx
    obtain ⟨h1,h2⟩:=hX.assert _ _ h
    rw [toFact_ok hx]
    exact ⟨_,h2,fun _=>rfl,fun _=>rfl,leaf_ok h1⟩
   ·exact absurd h hX.fail
  ·exact absurd h hX.fail
def toNode:List AV→Option Node
 | [.int .i64 a0,.int .i64 a1,.int .i64 a2,.int .i64 a3,.int .i64 a4,.int .i64 a5,.int .i64 a6,.int .i64 a7,.int .i64 b0,.int .i64 b1,.int .i64 b2,.int .i64 b3,.int .i64 b4,.int .i64 b5,.int .i64 b6,.int .i64 b7,.str l,.str r]=>
  some ⟨fun j=>match j with | 0=>a0 | 1=>a1 | 2=>a2 | 3=>a3 | 4=>a4 | 5=>a5 | 6=>a6 | 7=>a7 | _=>0,fun j=>match j with | 0=>b0 | 1=>b1 | 2=>b2 | 3=>b3 | 4=>b4 | 5=>b5 | 6=>b6 | 7=>b7 | _=>0,l,r⟩
 | _=>none
theorem toNode_ok {cs:List AV} {x:Node} (h:toNode cs=some x): cs=nodeAV x:=by
 unfold toNode at h
 split at h
 ·cases h;rfl
 ·cases h
noncomputable def kDig42:Known PP II:=Known.onHB 42
 (fun X args kn=>match args with
  | [.agg cs]=>match toNode cs with
   | some x=>X.assert (nodeOk x) (kn (.str (digF x)))
   | none=>X.fail
  | _=>X.fail)
 fun X sem hX args kn h=>by
  split at h
  ·rename_i cs
   split at h
   ·rename_i x hx
    obtain ⟨h1,h2⟩:=hX.assert _ _ h
    rw [toNode_ok hx]
    exact ⟨_,h2,fun _=>rfl,fun _=>rfl,dig42_ok h1⟩
   ·exact absurd h hX.fail
  ·exact absurd h hX.fail
end Go.Sx
end
section
set_option maxRecDepth 1000000
namespace Go.Sx
open Go
theorem join_vc (x y : Node) (Q : AV → Prop) : (kh [kDig42] [] 74 [.agg (nodeAV x), .agg (nodeAV y)] Q) = (let zz1 := (Q (AV.agg [AV.int .i64 (if y.lo 0 < x.lo 0 then y.lo 0 else x.lo 0), AV.int .i64 (if y.lo 1 < x.lo 1 then y.lo 1 else x.lo 1), AV.int .i64 (if y.lo 2 < x.lo 2 then y.lo 2 else x.lo 2), AV.int .i64 (if y.lo 3 < x.lo 3 then y.lo 3 else x.lo 3), AV.int .i64 (if y.lo 4 < x.lo 4 then y.lo 4 else x.lo 4), AV.int .i64 (if y.lo 5 < x.lo 5 then y.lo 5 else x.lo 5), AV.int .i64 (if y.lo 6 < x.lo 6 then y.lo 6 else x.lo 6), AV.int .i64 (if y.lo 7 < x.lo 7 then y.lo 7 else x.lo 7), AV.int .i64 (if y.hi 0 > x.hi 0 then y.hi 0 else x.hi 0), AV.int .i64 (if y.hi 1 > x.hi 1 then y.hi 1 else x.hi 1), AV.int .i64 (if y.hi 2 > x.hi 2 then y.hi 2 else x.hi 2), AV.int .i64 (if y.hi 3 > x.hi 3 then y.hi 3 else x.hi 3), AV.int .i64 (if y.hi 4 > x.hi 4 then y.hi 4 else x.hi 4), AV.int .i64 (if
 y.hi 5 > x.hi 5 then y.hi 5 else x.hi 5), AV.int .i64 (if y.hi 6 > x.hi 6 then y.hi 6 else x.hi 6), AV.int .i64 (if y.hi 7 > x.hi 7 then y.hi 7 else x.hi 7), AV.str (digF { lo := fun j => if h : j = 0 then x.lo 0 else if h : j = 1 then x.lo 1 else if h : j = 2 then x.lo 2 else if h : j = 3 then x.lo 3 else if h : j = 4 then x.lo 4 else if h : j = 5 then x.lo 5 else if h : j = 6 then x.lo 6 else if h : j = 7 then x.lo 7 else 0, hi := fun j => if h : j = 0 then x.hi 0 else if h : j = 1 then x.hi 1 else if h : j = 2 then x.hi 2 else if h : j = 3 then x.hi 3 else if h : j = 4 then x.hi 4 else if h : j = 5 then x.hi 5 else if h : j = 6 then x.hi 6 else if h : j = 7 then x.hi 7 else 0, l := x.l, r := x.r }), AV.str (digF { lo := fun j => if h : j = 0 then y.lo 0 else if h : j = 1 then y.lo 1 else if h : j = 2 then y.lo 2 else if h : j = 3 then y.lo 3 else if h : j = 4 then y.lo 4 else if h : j = 5 then y.lo 5 else if h : j = 6 then y.lo 6 else if h : j = 7 then y.lo 7 else 0, hi := fun j => if h : j = 0 then y.hi 0 else if h : j = 1 then y.hi 1 else if h : j = 2 then y.hi 2 else if h : j = 3 then y.hi 3 else if h : j = 4 then y.hi 4 else if h : j = 5 then y.hi 5 else if h : j = 6 then y.hi 6 else if h : j = 7 then y.hi 7 else 0, l := y.l, r := y.r })]));
 let zz2 := (decide (x.lo 0 = x.lo 0) && (decide (x.lo 1 = x.lo 1) && (decide (x.lo 2 = x.lo 2) && (decide (x.lo 3 = x.lo 3) && (decide (x.lo 4 = x.lo 4) && (decide (x.lo 5 = x.lo 5) && (decide (x.lo 6 = x.lo 6) && (decide (x.lo 7 = x.lo 7) && (decide (x.hi 0 = x.hi 0) && (decide (x.hi 1 = x.hi 1) && (decide (x.hi 2 = x.hi 2) && (decide (x.hi 3 = x.hi 3) && (decide (x.hi 4 = x.hi 4) && (decide (x.hi 5 = x.hi 5) && (decide (x.hi 6 = x.hi 6) && (decide (x.hi 7 = x.hi 7) && true)))))))))))))))); (Asks (nodeOk { lo := fun j => if h : j = 0 then x.lo 0 else if h : j = 1 then x.lo 1 else if h : j = 2 then x.lo 2 else if h : j = 3 then x.lo 3 else if h : j = 4 then x.lo 4 else if h : j = 5 then x.lo 5 else if h : j = 6 then x.lo 6 else if h : j = 7 then x.lo 7 else 0, hi := fun j => if h : j = 0 then x.hi 0 else if h : j = 1 then x.hi 1 else if h : j = 2 then x.hi 2 else if h : j = 3 then x.hi 3 else if h : j = 4 then x.hi 4 else if h : j = 5 then x.hi 5 else if h : j = 6 then x.hi 6 else if h : j = 7 then x.hi 7 else 0, l := x.l, r := x.r })
 (Asks zz2 (Asks (decide (y.lo 0 = y.lo 0) && (decide (y.lo 1 = y.lo 1) && (decide (y.lo 2 = y.lo 2) && (decide (y.lo 3 = y.lo 3) && (decide (y.lo 4 = y.lo 4) && (decide (y.lo 5 = y.lo 5) && (decide (y.lo 6 = y.lo 6) && (decide (y.lo 7 = y.lo 7) && (decide (y.hi 0 = y.hi 0) && (decide (y.hi 1 = y.hi 1) && (decide (y.hi 2 = y.hi 2) && (decide (y.hi 3 = y.hi 3) && (decide (y.hi 4 = y.hi 4) && (decide (y.hi 5 = y.hi 5) && (decide (y.hi 6 = y.hi 6) && (decide (y.hi 7 = y.hi 7) && (decide (y.l = y.l) && (decide (y.r = y.r) && true)))))))))))))))))) (Asks (nodeOk { lo := fun j => if h : j = 0 then y.lo 0 else if h : j = 1 then y.lo 1 else if h : j = 2 then y.lo 2 else if h : j = 3 then y.lo 3 else if h : j = 4 then y.lo 4 else if h : j = 5 then y.lo 5 else if h : j = 6 then y.lo 6 else if h : j = 7 then y.lo 7 else 0, hi := fun j => if h : j = 0 then y.hi 0 else if h : j = 1 then y.hi 1 else if h : j = 2 then y.hi 2 else if h : j = 3 then y.hi 3 else if h : j = 4 then y.hi 4 else if h : j = 5 then y.hi 5 else if h : j = 6 then y.hi 6 else if h : j = 7 then y.hi 7 else 0, l := y.l, r := y.r })
 (Asks zz2 (Cond (decide (y.lo 0 = x.lo 0) && (decide (y.lo 1 = x.lo 1) && (decide (y.lo 2 = x.lo 2) && (decide (y.lo 3 = x.lo 3) && (decide (y.lo 4 = x.lo 4) && (decide (y.lo 5 = x.lo 5) && (decide (y.lo 6 = x.lo 6) && (decide (y.lo 7 = x.lo 7) && true)))))))) (Cond (decide (y.hi 0 = x.hi 0) && (decide (y.hi 1 = x.hi 1) && (decide (y.hi 2 = x.hi 2) && (decide (y.hi 3 = x.hi 3) && (decide (y.hi 4 = x.hi 4) && (decide (y.hi 5 = x.hi 5) && (decide (y.hi 6 = x.hi 6) && (decide (y.hi 7 = x.hi 7) && true)))))))) (Q (AV.agg [AV.int .i64 (x.lo 0), AV.int .i64 (x.lo 1), AV.int .i64 (x.lo 2), AV.int .i64 (x.lo 3), AV.int .i64 (x.lo 4), AV.int .i64 (x.lo 5), AV.int .i64 (x.lo 6), AV.int .i64 (x.lo 7), AV.int .i64 (x.hi 0), AV.int .i64 (x.hi 1), AV.int .i64 (x.hi 2), AV.int .i64 (x.hi 3), AV.int .i64 (x.hi 4), AV.int .i64 (x.hi 5), AV.int .i64 (x.hi 6), AV.int .i64 (x.hi 7), AV.str (digF { lo := fun j => if h : j = 0 then x.lo 0 else if h : j = 1 then x.lo 1 else if h : j = 2 then x.lo 2 else if h : j = 3 then x.lo 3 else if h : j = 4 then x.lo 4 else if h : j = 5 then x.lo 5 else if h : j = 6 then x.lo 6 else if h : j = 7 then x.lo 7 else 0, hi := fun j => if h : j = 0 then x.hi 0 else if h : j = 1 then x.hi 1 else if h : j = 2 then x.hi 2 else if h : j = 3 then x.hi 3 else if h : j = 4 then x.hi 4 else if h : j = 5 then x.hi 5 else if h : j = 6 then x.hi 6 else if h : j = 7 then x.hi 7 else 0, l := x.l, r := x.r }),
 AV.str (digF { lo := fun j => if h : j = 0 then y.lo 0 else if h : j = 1 then y.lo 1 else if h : j = 2 then y.lo 2 else if h : j = 3 then y.lo 3 else if h : j = 4 then y.lo 4 else if h : j = 5 then y.lo 5 else if h : j = 6 then y.lo 6 else if h : j = 7 then y.lo 7 else 0, hi := fun j => if h : j = 0 then y.hi 0 else if h : j = 1 then y.hi 1 else if h : j = 2 then y.hi 2 else if h : j = 3 then y.hi 3 else if h : j = 4 then y.hi 4 else if h : j = 5 then y.hi 5 else if h : j = 6 then y.hi 6 else if h : j = 7 then y.hi 7 else 0, l := y.l, r := y.r })])) zz1) zz1))))))) := by kernel_rfl
theorem root41_vc (n:Int) (s:List UInt8) (Q:AV→Prop): (kh [kInts,kSum] [] 41 [.int .i64 n,.str s] Q)=(Asks (decide ((-4611686018427387903:Int)≤n)&&decide (n≤4611686018427387903)&&true&&true&&true) (Asks (decide (1+List.length (intsF [n])≤9223372036854775807)) (Asks (decide (List.length (sapp [{toBitVec:={toFin:=⟨7,Nat.mod_lt 7 (BitVec.ofNat._proof_1 8)⟩}}] (intsF [n]))+List.length s≤9223372036854775807)) (Asks (Nat.ble (List.length (sapp (sapp [{toBitVec:={toFin:=⟨7,Nat.mod_lt 7 (BitVec.ofNat._proof_1 8)⟩}}] (intsF [n])) s)) 900000) (Q (AV.str (sumF (sapp (sapp [{toBitVec:={toFin:=⟨7,Nat.mod_lt 7 (BitVec.ofNat._proof_1 8)⟩}}] (intsF [n])) s)))))))):=by kernel_rfl
end Go.Sx
end
section
set_option maxRecDepth 1000000
namespace Go.Sx
open Go
def minI (a b:Int): Int:=if b<a then b else a
def maxI (a b:Int): Int:=if b>a then b else a
def joinF (x y:Node): Node:=⟨fun j=>minI (x.lo j) (y.lo j),fun j=>maxI (x.hi j) (y.hi j),digF x,digF y⟩
theorem okMin {a b:Int} (ha:okI a=true) (hb:okI b=true): okI (minI a b)=true:=by
 unfold minI;split<;>assumption
theorem okMax {a b:Int} (ha:okI a=true) (hb:okI b=true): okI (maxI a b)=true:=by
 unfold maxI;split<;>assumption
theorem joinF_ok {x y:Node} (hx:nodeOk x=true) (hy:nodeOk y=true): nodeOk (joinF x y)=true:=by
 simp only [nodeOk,Bool.and_eq_true] at hx hy⊢
 obtain ⟨⟨⟨⟨⟨⟨⟨⟨⟨⟨⟨⟨⟨⟨⟨⟨⟨a0,a1⟩,a2⟩,a3⟩,a4⟩,a5⟩,a6⟩,a7⟩,c0⟩,c1⟩,c2⟩,c3⟩,c4⟩,c5⟩,c6⟩,c7⟩,_⟩,_⟩:=hx
 obtain ⟨⟨⟨⟨⟨⟨⟨⟨⟨⟨⟨⟨⟨⟨⟨⟨⟨b0,b1⟩,b2⟩,b3⟩,b4⟩,b5⟩,b6⟩,b7⟩,d0⟩,d1⟩,d2⟩,d3⟩,d4⟩,d5⟩,d6⟩,d7⟩,_⟩,_⟩:=hy
 exact ⟨⟨⟨⟨⟨⟨⟨⟨⟨⟨⟨⟨⟨⟨⟨⟨⟨okMin a0 b0,okMin a1 b1⟩,okMin a2 b2⟩,okMin a3 b3⟩,okMin a4 b4⟩,okMin a5 b5⟩,okMin a6 b6⟩,okMin a7 b7⟩,okMax c0 d0⟩,okMax c1 d1⟩,okMax c2 d2⟩,okMax c3 d3⟩,okMax c4 d4⟩,okMax c5 d5⟩,okMax c6 d6⟩,okMax c7 d7⟩,rfl⟩,rfl⟩
theorem leafF_ok {x:Fact} (h:factOk x=true): nodeOk (leafF x)=true:=by
 simp only [factOk,Bool.and_eq_true] at h
 obtain ⟨⟨⟨⟨⟨⟨⟨⟨⟨h0,h1⟩,h2⟩,h3⟩,h4⟩,h5⟩,h6⟩,h7⟩,h8⟩,h9⟩:=h
 simp only [nodeOk,Bool.and_eq_true]
 exact ⟨⟨⟨⟨⟨⟨⟨⟨⟨⟨⟨⟨⟨⟨⟨⟨⟨h0,h2⟩,h3⟩,h4⟩,h5⟩,h6⟩,h9⟩,h7⟩,h0⟩,h2⟩,h3⟩,h4⟩,h5⟩,h6⟩,h9⟩,h8⟩,rfl⟩,rfl⟩
theorem minI_same {a b:Int} (h:b=a): minI a b=a:=by rw [h];unfold minI;exact ite_self _
theorem maxI_same {a b:Int} (h:b=a): maxI a b=a:=by rw [h];unfold maxI;exact ite_self _
theorem joinF_same {x y:Node} (h:y.lo 0=x.lo 0∧y.lo 1=x.lo 1∧y.lo 2=x.lo 2∧y.lo 3=x.lo 3∧y.lo 4=x.lo 4∧y.lo 5=x.lo 5∧y.lo 6=x.lo 6∧y.lo 7=x.lo 7∧True)
  (h2:y.hi 0=x.hi 0∧y.hi 1=x.hi 1∧y.hi 2=x.hi 2∧y.hi 3=x.hi 3∧y.hi 4=x.hi 4∧y.hi 5=x.hi 5∧y.hi 6=x.hi 6∧y.hi 7=x.hi 7∧True): nodeAV (joinF x y)=nodeAV ⟨x.lo,x.hi,digF x,digF y⟩:=by
 obtain ⟨a0,a1,a2,a3,a4,a5,a6,a7,_⟩:=h
 obtain ⟨c0,c1,c2,c3,c4,c5,c6,c7,_⟩:=h2
 unfold nodeAV joinF
 dsimp only
 rw [minI_same a0,minI_same a1,minI_same a2,minI_same a3,minI_same a4,minI_same a5,minI_same a6,minI_same a7,maxI_same c0,maxI_same c1,maxI_same c2,maxI_same c3,maxI_same c4,maxI_same c5,maxI_same c6,maxI_same c7]
theorem join_ok {x y:Node} (hx:nodeOk x=true) (hy:nodeOk y=true): CallGives PP II 74 [.agg (nodeAV x),.agg (nodeAV y)] HB (.ret (.agg (nodeAV (joinF x y))) HB):=by
 refine of_kh (ks:=[kDig42]) (T:=[]) (fun σ=>nodeAV_le σ _) ?_
 rw [join_vc x y]
 refine Asks.mk ((rfl:_=nodeOk x).trans hx) (Asks.mk ?_ (Asks.mk ?_ (Asks.mk ((rfl:_=nodeOk y).trans hy) (Asks.mk ?_ (Cond.mk (fun h=>Cond.mk (fun h2=>?_) fun _=>rfl) fun _=>rfl)))))
 ·simp only [decide_true,Bool.and_self]
 ·simp only [decide_true,Bool.and_self]
 ·simp only [decide_true,Bool.and_self]
 ·simp only [Bool.and_eq_true,decide_eq_true_eq] at h h2
  have key:=joinF_same (x:=x) (y:=y) h h2
  rw [key]
  rfl
noncomputable def kJoin:Known PP II:=Known.onHB 74
 (fun X args kn=>match args with
  | [.agg cs,.agg ds]=>match toNode cs,toNode ds with
   | some x,some y=>X.assert (nodeOk x&&nodeOk y) (kn (.agg (nodeAV (joinF x y))))
   | _,_=>X.fail
  | _=>X.fail)
 fun X sem hX args kn h=>by
  split at h
  ·rename_i cs ds
   split at h
   ·rename_i x y hx hy
    obtain ⟨h1,h2⟩:=hX.assert _ _ h
    simp only [Bool.and_eq_true] at h1
    rw [toNode_ok hx,toNode_ok hy]
    exact ⟨_,h2,fun _=>rfl,fun _=>rfl,join_ok h1.1 h1.2⟩
   ·exact absurd h hX.fail
  ·exact absurd h hX.fail
def rootF (n:Int) (s:List UInt8): List UInt8:=sumF (sapp (sapp [7] (intsF [n])) s)
end Go.Sx
end
section
set_option maxRecDepth 1000000
namespace Go.Sx
open Go
inductive Tree where
 | leaf (x:Fact)
 | node (l r:Tree)
def topF:Tree→Node
 | .leaf x=>leafF x
 | .node l r=>joinF (topF l) (topF r)
def zeroFact:Fact:=⟨0,0,0,0,0,0,0,0,0,0⟩
def factF:Tree→Fact
 | .leaf x=>x
 | .node _ _=>zeroFact
def cellsOf (n:Node) (x:Fact) (k:AV): List AV:=[.int .i64 (n.lo 0),.int .i64 (n.lo 1),.int .i64 (n.lo 2),.int .i64 (n.lo 3),.int .i64 (n.lo 4),.int .i64 (n.lo 5),.int .i64 (n.lo 6),.int .i64 (n.lo 7),.int .i64 (n.hi 0),.int .i64 (n.hi 1),.int .i64 (n.hi 2),.int .i64 (n.hi 3),.int .i64 (n.hi 4),.int .i64 (n.hi 5),.int .i64 (n.hi 6),.int .i64 (n.hi 7),.str n.l,.str n.r,
 .int .i64 x.t,.int .i64 x.s,.int .i64 x.v,.int .i64 x.w,.int .i64 x.o,.int .i64 x.p,.int .i64 x.d,.int .i64 x.l,.int .i64 x.h,.int .i64 x.b,k]
def pairRow (p q:AV) (i:Nat): List AV:=List.take 1 (List.drop (0+i*1) [p,q])
def kidsF:Tree→AV
 | .leaf _=> .nilSlice
 | .node l r=> .fslice 2 1 (pairRow (.fptr (cellsOf (topF l) (factF l) (kidsF l)) 0) (.fptr (cellsOf (topF r) (factF r) (kidsF r)) 0))
def treeAV (t:Tree): AV:=.fptr (cellsOf (topF t) (factF t) (kidsF t)) 0
def growT:Nat→Nat→(Nat→Fact)→Tree
 | 0,_,F=> .leaf (F 0)
 | d+1,n,F=>match Nat.ble n 1 with
  | true=> .leaf (F 0)
  | false=> .node (growT d (halfN n) F) (growT d (n-halfN n) fun i=>F (halfN n+i))
def factsOk (n:Nat) (F:Nat→Fact): Bool:=(List.range n).all fun i=>factOk (F i)
def growOk (d n:Nat): Bool:=Nat.ble 1 n&&Nat.ble (2*n) (2^d)
def Grows (d:Nat): Prop := ∀ n F,growOk d n=true→factsOk n F=true→CallGives PP II 35 [factsAV n F] HB (.ret (treeAV (growT d n F)) HB)
noncomputable def kGrowB (d:Nat) (ih:Grows d): Known PP II:=Known.onHB 35
 (fun X args kn=>match args with
  | [.fslice n 10 f]=>X.assert (isFacts n f) (X.assert (growOk d n) (X.assert (factsOk n (factAt f)) (kn (treeAV (growT d n (factAt f))))))
  | _=>X.fail)
 fun X sem hX args kn h=>by
  split at h
  ·rename_i n f
   obtain ⟨e1,k1⟩:=hX.assert _ _ h
   obtain ⟨e2,k2⟩:=hX.assert _ _ k1
   obtain ⟨e3,k3⟩:=hX.assert _ _ k2
   exact ⟨_,k3,fun _=>rfl,fun _=>rfl,(ih n (factAt f) e2 e3).argsLe ⟨isFacts_ok e1,trivial⟩⟩
  ·exact absurd h hX.fail
theorem grow_vc (d n : Nat) (F : Nat → Fact) (ih : Grows d) (Q : AV → Prop) : (kh [kLeaf, kHalf, kGrowB d ih, kJoin] [] 35 [factsAV n F] Q) = (let zz1 := (growT d (Int.toNat (Int.ofNat n - Int.ofNat (halfN (Int.toNat (Int.ofNat n))))) (factAt fun i => factAV (F (Int.toNat (Int.ofNat (halfN (Int.toNat (Int.ofNat n)))) + i)))); let zz2 := (growT d (Int.toNat (Int.ofNat (halfN (Int.toNat (Int.ofNat n))) - 0)) (factAt fun i => factAV (F (0 + i)))); let zz3 := (decide (0 ≤ Int.ofNat (halfN (Int.toNat (Int.ofNat n)))) && decide (Int.ofNat (halfN (Int.toNat (Int.ofNat n))) ≤ Int.ofNat n) && decide (Int.ofNat n ≤ Int.ofNat n)); (Cond (decide (Int.ofNat n = 1)) (Asks (decide (0 < Int.ofNat n)) (Asks (factOk (F 0)) (Asks (decide (0 < Int.ofNat n)) (Asks (decide ((F 0).t = (F 0).t) && (decide ((F 0).s = (F 0).s) && (decide ((F 0).v = (F 0).v) && (decide ((F 0).w = (F 0).w) && (decide ((F 0).o = (F
 0).o) && (decide ((F 0).p = (F 0).p) && (decide ((F 0).d = (F 0).d) && (decide ((F 0).l = (F 0).l) && (decide ((F 0).h = (F 0).h) && (decide ((F 0).b = (F 0).b) && true)))))))))) (Q (AV.fptr [AV.int .i64 (Node.lo (leafF (F 0)) 0), AV.int .i64 (Node.lo (leafF (F 0)) 1), AV.int .i64 (Node.lo (leafF (F 0)) 2), AV.int .i64 (Node.lo (leafF (F 0)) 3), AV.int .i64 (Node.lo (leafF (F 0)) 4), AV.int .i64 (Node.lo (leafF (F 0)) 5), AV.int .i64 (Node.lo (leafF (F 0)) 6), AV.int .i64 (Node.lo (leafF (F 0)) 7), AV.int .i64 (Node.hi (leafF (F 0)) 0), AV.int .i64 (Node.hi (leafF (F 0)) 1), AV.int .i64 (Node.hi (leafF (F 0)) 2), AV.int .i64 (Node.hi (leafF (F 0)) 3), AV.int .i64 (Node.hi (leafF (F 0)) 4), AV.int .i64 (Node.hi (leafF (F 0)) 5), AV.int .i64 (Node.hi (leafF (F 0)) 6), AV.int .i64 (Node.hi (leafF (F 0)) 7), AV.str (Node.l (leafF (F 0))), AV.str (Node.r (leafF (F 0))), AV.int .i64 (F 0).t,
 AV.int .i64 (F 0).s, AV.int .i64 (F 0).v, AV.int .i64 (F 0).w, AV.int .i64 (F 0).o, AV.int .i64 (F 0).p, AV.int .i64 (F 0).d, AV.int .i64 (F 0).l, AV.int .i64 (F 0).h, AV.int .i64 (F 0).b, AV.nilSlice] 0)))))) (Asks (decide (0 ≤ Int.ofNat n) && decide (Int.ofNat n ≤ 1000000)) (Asks (decide (0 ≤ Int.ofNat (halfN (Int.toNat (Int.ofNat n)))) && decide (Int.ofNat (halfN (Int.toNat (Int.ofNat n))) ≤ Int.ofNat n)) (Asks (isFacts (Int.toNat (Int.ofNat (halfN (Int.toNat (Int.ofNat n))) - 0)) fun i => factAV (F (0 + i))) (Asks (growOk d (Int.toNat (Int.ofNat (halfN (Int.toNat (Int.ofNat n))) - 0))) (Asks (factsOk (Int.toNat (Int.ofNat (halfN (Int.toNat (Int.ofNat n))) - 0)) (factAt fun i => factAV (F (0 + i)))) (Asks zz3 (Asks zz3 (Asks (decide (Int.toNat (Int.ofNat n - Int.ofNat (halfN (Int.toNat (Int.ofNat n)))) = Int.toNat (Int.ofNat n - Int.ofNat (halfN (Int.toNat (Int.ofNat n))))) && true &&
 List.all (List.range.loop (Int.toNat (Int.ofNat n - Int.ofNat (halfN (Int.toNat (Int.ofNat n))))) []) fun i => decide (Fact.t (F (Int.toNat (Int.ofNat (halfN (Int.toNat (Int.ofNat n)))) + i)) = Fact.t (F (Int.toNat (Int.ofNat (halfN (Int.toNat (Int.ofNat n)))) + i))) && (decide (Fact.s (F (Int.toNat (Int.ofNat (halfN (Int.toNat (Int.ofNat n)))) + i)) = Fact.s (F (Int.toNat (Int.ofNat (halfN (Int.toNat (Int.ofNat n)))) + i))) && (decide (Fact.v (F (Int.toNat (Int.ofNat (halfN (Int.toNat (Int.ofNat n)))) + i)) = Fact.v (F (Int.toNat (Int.ofNat (halfN (Int.toNat (Int.ofNat n)))) + i))) && (decide (Fact.w (F (Int.toNat (Int.ofNat (halfN (Int.toNat (Int.ofNat n)))) + i)) = Fact.w (F (Int.toNat (Int.ofNat (halfN (Int.toNat (Int.ofNat n)))) + i))) && (decide (Fact.o (F (Int.toNat (Int.ofNat (halfN (Int.toNat (Int.ofNat n)))) + i)) = Fact.o (F (Int.toNat (Int.ofNat (halfN (Int.toNat (Int.ofNat
 n)))) + i))) && (decide (Fact.p (F (Int.toNat (Int.ofNat (halfN (Int.toNat (Int.ofNat n)))) + i)) = Fact.p (F (Int.toNat (Int.ofNat (halfN (Int.toNat (Int.ofNat n)))) + i))) && (decide (Fact.d (F (Int.toNat (Int.ofNat (halfN (Int.toNat (Int.ofNat n)))) + i)) = Fact.d (F (Int.toNat (Int.ofNat (halfN (Int.toNat (Int.ofNat n)))) + i))) && (decide (Fact.l (F (Int.toNat (Int.ofNat (halfN (Int.toNat (Int.ofNat n)))) + i)) = Fact.l (F (Int.toNat (Int.ofNat (halfN (Int.toNat (Int.ofNat n)))) + i))) && (decide (Fact.h (F (Int.toNat (Int.ofNat (halfN (Int.toNat (Int.ofNat n)))) + i)) = Fact.h (F (Int.toNat (Int.ofNat (halfN (Int.toNat (Int.ofNat n)))) + i))) && (decide (Fact.b (F (Int.toNat (Int.ofNat (halfN (Int.toNat (Int.ofNat n)))) + i)) = Fact.b (F (Int.toNat (Int.ofNat (halfN (Int.toNat (Int.ofNat n)))) + i))) && true)))))))))) (Asks (isFacts (Int.toNat (Int.ofNat n - Int.ofNat (halfN
 (Int.toNat (Int.ofNat n))))) fun i => factAV (F (Int.toNat (Int.ofNat (halfN (Int.toNat (Int.ofNat n)))) + i))) (Asks (growOk d (Int.toNat (Int.ofNat n - Int.ofNat (halfN (Int.toNat (Int.ofNat n)))))) (Asks (factsOk (Int.toNat (Int.ofNat n - Int.ofNat (halfN (Int.toNat (Int.ofNat n))))) (factAt fun i => factAV (F (Int.toNat (Int.ofNat (halfN (Int.toNat (Int.ofNat n)))) + i)))) (Asks (nodeOk { lo := fun j => if h : j = 0 then Node.lo (topF zz2) 0 else if h : j = 1 then Node.lo (topF zz2) 1 else if h : j = 2 then Node.lo (topF zz2) 2 else if h : j = 3 then Node.lo (topF zz2) 3 else if h : j = 4 then Node.lo (topF zz2) 4 else if h : j = 5 then Node.lo (topF zz2) 5 else if h : j = 6 then Node.lo (topF zz2) 6 else if h : j = 7 then Node.lo (topF zz2) 7 else 0, hi := fun j => if h : j = 0 then Node.hi (topF zz2) 0 else if h : j = 1 then Node.hi (topF zz2) 1 else if h : j = 2 then Node.hi (topF zz2) 2 else if h : j = 3 then Node.hi (topF zz2) 3 else if h : j = 4 then Node.hi (topF zz2) 4 else if h : j = 5 then Node.hi (topF zz2) 5 else if h : j = 6 then Node.hi (topF zz2) 6 else if h : j = 7 then Node.hi (topF zz2) 7 else 0, l := Node.l (topF zz2), r := Node.r (topF zz2) }
 && nodeOk { lo := fun j => if h : j = 0 then Node.lo (topF zz1) 0 else if h : j = 1 then Node.lo (topF zz1) 1 else if h : j = 2 then Node.lo (topF zz1) 2 else if h : j = 3 then Node.lo (topF zz1) 3 else if h : j = 4 then Node.lo (topF zz1) 4 else if h : j = 5 then Node.lo (topF zz1) 5 else if h : j = 6 then Node.lo (topF zz1) 6 else if h : j = 7 then Node.lo (topF zz1) 7 else 0, hi := fun j => if h : j = 0 then Node.hi (topF zz1) 0 else if h : j = 1 then Node.hi (topF zz1) 1 else if h : j = 2 then Node.hi (topF zz1) 2 else if h : j = 3 then Node.hi (topF zz1) 3 else if h : j = 4 then Node.hi (topF zz1) 4 else if h : j = 5 then Node.hi (topF zz1) 5 else if h : j = 6 then Node.hi (topF zz1) 6 else if h : j = 7 then Node.hi (topF zz1) 7 else 0, l := Node.l (topF zz1), r := Node.r (topF zz1) }) (Q (AV.fptr [AV.int .i64 (minI (Node.lo (topF zz2) 0) (Node.lo (topF zz1) 0)), AV.int .i64 (minI
 (Node.lo (topF zz2) 1) (Node.lo (topF zz1) 1)), AV.int .i64 (minI (Node.lo (topF zz2) 2) (Node.lo (topF zz1) 2)), AV.int .i64 (minI (Node.lo (topF zz2) 3) (Node.lo (topF zz1) 3)), AV.int .i64 (minI (Node.lo (topF zz2) 4) (Node.lo (topF zz1) 4)), AV.int .i64 (minI (Node.lo (topF zz2) 5) (Node.lo (topF zz1) 5)), AV.int .i64 (minI (Node.lo (topF zz2) 6) (Node.lo (topF zz1) 6)), AV.int .i64 (minI (Node.lo (topF zz2) 7) (Node.lo (topF zz1) 7)), AV.int .i64 (maxI (Node.hi (topF zz2) 0) (Node.hi (topF zz1) 0)), AV.int .i64 (maxI (Node.hi (topF zz2) 1) (Node.hi (topF zz1) 1)), AV.int .i64 (maxI (Node.hi (topF zz2) 2) (Node.hi (topF zz1) 2)), AV.int .i64 (maxI (Node.hi (topF zz2) 3) (Node.hi (topF zz1) 3)), AV.int .i64 (maxI (Node.hi (topF zz2) 4) (Node.hi (topF zz1) 4)), AV.int .i64 (maxI (Node.hi (topF zz2) 5) (Node.hi (topF zz1) 5)), AV.int .i64 (maxI (Node.hi (topF zz2) 6) (Node.hi (topF zz1)
 6)), AV.int .i64 (maxI (Node.hi (topF zz2) 7) (Node.hi (topF zz1) 7)), AV.str (digF { lo := fun j => if h : j = 0 then Node.lo (topF zz2) 0 else if h : j = 1 then Node.lo (topF zz2) 1 else if h : j = 2 then Node.lo (topF zz2) 2 else if h : j = 3 then Node.lo (topF zz2) 3 else if h : j = 4 then Node.lo (topF zz2) 4 else if h : j = 5 then Node.lo (topF zz2) 5 else if h : j = 6 then Node.lo (topF zz2) 6 else if h : j = 7 then Node.lo (topF zz2) 7 else 0, hi := fun j => if h : j = 0 then Node.hi (topF zz2) 0 else if h : j = 1 then Node.hi (topF zz2) 1 else if h : j = 2 then Node.hi (topF zz2) 2 else if h : j = 3 then Node.hi (topF zz2) 3 else if h : j = 4 then Node.hi (topF zz2) 4 else if h : j = 5 then Node.hi (topF zz2) 5 else if h : j = 6 then Node.hi (topF zz2) 6 else if h : j = 7 then Node.hi (topF zz2) 7 else 0, l := Node.l (topF zz2), r := Node.r (topF zz2) }), AV.str (digF { lo := fun j => if h : j = 0 then Node.lo (topF zz1) 0 else if h : j = 1 then Node.lo (topF zz1) 1 else if h : j = 2 then Node.lo (topF zz1) 2 else if h : j = 3 then Node.lo (topF zz1) 3 else if h : j = 4 then Node.lo (topF zz1) 4 else if h : j = 5 then Node.lo (topF zz1) 5 else if h : j = 6 then Node.lo (topF zz1) 6 else if h : j = 7 then Node.lo (topF zz1) 7 else 0, hi := fun j => if h : j = 0 then Node.hi (topF zz1) 0 else if h : j = 1 then Node.hi (topF zz1) 1 else if h : j = 2 then Node.hi (topF zz1) 2 else if h : j = 3 then Node.hi (topF zz1) 3 else if h : j = 4 then Node.hi (topF zz1) 4 else if h : j = 5 then Node.hi (topF zz1) 5 else if h : j = 6 then Node.hi (topF zz1) 6 else if h : j = 7 then Node.hi (topF zz1) 7 else 0, l := Node.l (topF zz1), r := Node.r (topF zz1) }),
 AV.int .i64 0, AV.int .i64 0, AV.int .i64 0, AV.int .i64 0, AV.int .i64 0, AV.int .i64 0, AV.int .i64 0, AV.int .i64 0, AV.int .i64 0, AV.int .i64 0, AV.fslice 2 1 fun i => Nat.rec (motive := fun x => Nat.below (motive := fun x => List AV → List AV) x → List AV) (fun x => []) (fun n_1 n_ih => List.casesOn (motive := fun x => Nat.below (motive := fun x => List AV → List AV) (n_1 + 1) → List AV) (List.drop (0 + i * 1) [AV.fptr [AV.int .i64 (Node.lo (topF zz2) 0), AV.int .i64 (Node.lo (topF zz2) 1), AV.int .i64 (Node.lo (topF zz2) 2), AV.int .i64 (Node.lo (topF zz2) 3), AV.int .i64 (Node.lo (topF zz2) 4), AV.int .i64 (Node.lo (topF zz2) 5), AV.int .i64 (Node.lo (topF zz2) 6), AV.int .i64 (Node.lo (topF zz2) 7), AV.int .i64 (Node.hi (topF zz2) 0), AV.int .i64 (Node.hi (topF zz2) 1), AV.int .i64 (Node.hi (topF zz2) 2), AV.int .i64 (Node.hi (topF zz2) 3), AV.int .i64 (Node.hi (topF zz2) 4),
 AV.int .i64 (Node.hi (topF zz2) 5), AV.int .i64 (Node.hi (topF zz2) 6), AV.int .i64 (Node.hi (topF zz2) 7), AV.str (Node.l (topF zz2)), AV.str (Node.r (topF zz2)), AV.int .i64 (Fact.t (factF zz2)), AV.int .i64 (Fact.s (factF zz2)), AV.int .i64 (Fact.v (factF zz2)), AV.int .i64 (Fact.w (factF zz2)), AV.int .i64 (Fact.o (factF zz2)), AV.int .i64 (Fact.p (factF zz2)), AV.int .i64 (Fact.d (factF zz2)), AV.int .i64 (Fact.l (factF zz2)), AV.int .i64 (Fact.h (factF zz2)), AV.int .i64 (Fact.b (factF zz2)), kidsF zz2] 0, AV.fptr [AV.int .i64 (Node.lo (topF zz1) 0), AV.int .i64 (Node.lo (topF zz1) 1), AV.int .i64 (Node.lo (topF zz1) 2), AV.int .i64 (Node.lo (topF zz1) 3), AV.int .i64 (Node.lo (topF zz1) 4), AV.int .i64 (Node.lo (topF zz1) 5), AV.int .i64 (Node.lo (topF zz1) 6), AV.int .i64 (Node.lo (topF zz1) 7), AV.int .i64 (Node.hi (topF zz1) 0), AV.int .i64 (Node.hi (topF zz1) 1), AV.int .i64
 (Node.hi (topF zz1) 2), AV.int .i64 (Node.hi (topF zz1) 3), AV.int .i64 (Node.hi (topF zz1) 4), AV.int .i64 (Node.hi (topF zz1) 5), AV.int .i64 (Node.hi (topF zz1) 6), AV.int .i64 (Node.hi (topF zz1) 7), AV.str (Node.l (topF zz1)), AV.str (Node.r (topF zz1)), AV.int .i64 (Fact.t (factF zz1)), AV.int .i64 (Fact.s (factF zz1)), AV.int .i64 (Fact.v (factF zz1)), AV.int .i64 (Fact.w (factF zz1)), AV.int .i64 (Fact.o (factF zz1)), AV.int .i64 (Fact.p (factF zz1)), AV.int .i64 (Fact.d (factF zz1)), AV.int .i64 (Fact.l (factF zz1)), AV.int .i64 (Fact.h (factF zz1)), AV.int .i64 (Fact.b (factF zz1)), kidsF zz1] 0]) (fun x => []) fun head tail x => head :: x.1 tail) 1 ⟨fun x => [], PUnit.unit⟩] 0)))))))))))))))) := by kernel_rfl
end Go.Sx
end
