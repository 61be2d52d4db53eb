/- CertifyOpens is proved, part 18. -/
import Derived.Test.YtleifmkjbmhlpaaGreatDoorX17
set_option linter.unusedVariables false
set_option linter.unusedSimpArgs false
set_option linter.unusedSectionVars false
section
set_option maxRecDepth 1000000
namespace Go.Sx
open Go
theorem LoopAt.ofT {P:Program} {I:Info} (hI:I.Ok P) (ks:List (Known P I)) (fuel:Nat) {ι:Type} (T:ι→LTab) {c:Code} {ir:Bool} (n0:Nat) (J:ι→Prop) (S:ι→St) (E:ι→GE) (μ:ι→Nat) (nx:ι→ι) (i0:ι)
  (hI0:Nat.ble I.G n0=true) (hJ:J i0)
  (step : ∀ i,J i→krun ks (lamT P I (T i)) fuel ir (.code c) (S i) (nextK n0 S E nx (J (nx i)∧μ (nx i)<μ i∧(E (nx i)).pick=(E i).pick) i)): LoopAt P I ir c n0 (S i0) (E i0) where
 h s0 hn0 hs:=by
  subst hn0
  refine loop_gives (S:=S) (E:=fun i=>(E i).pick) (J:=J) μ (Nat.le_of_ble_eq_true hI0) hJ hs fun i hi=>?_
  obtain ⟨e,h1,h2⟩:=krun_ok hI ks (lamT_ok P I (T i)) fuel ir _ _ _ (step i hi)
  refine ⟨e,h2,?_⟩
  cases e with
  | n s=>
   obtain ⟨k1,k2,k3,k4⟩:=StLq.ok (K:=J (nx i)∧μ (nx i)<μ i∧(E (nx i)).pick=(E i).pick) h1
   exact ⟨nx i,k2,k3,k1,k4⟩
  | x b s=>exact GE.meets_ok (g:=E i) h1
  | g b s=>exact GE.meets_ok (g:=E i) h1
  | r s=>exact GE.meets_ok (g:=E i) h1
  | p a s=>exact (h1:False).elim
theorem made_next0 (n:Nat) (X:Nat→Nat→Int) (i:Int) (m:Nat) (F:Nat→Fact) (eN:Bool) (iN:Int) (mN:Nat) (FN:Nat→Fact) (Q:Prop) (f:Fact) (hf:f=mkFact (X 0 0) (X 0 1) (X 0 2) (X 0 3)) (hx:xOk X 0) (hi:i=0) (hn:0<n) (hQ:Q):
  kr [kPick29] [(12034,96,s10b n X ⟨i,true,m,F⟩ f 0,e10b n X ⟨i,true,m,F⟩ f 0)] 10 3008 12 (s10 n X) (fun _=>e10 n X eN iN mN FN) (fun _=>⟨i+1,false,1,getL [f]⟩) Q ⟨i,true,m,F⟩:=by
 refine (made_step0 n X i m 1 F (getL [f]) f (i+1) iN eN mN FN Q).mpr ?_
 have e1:Int.toNat i=0:=by omega
 rw [e1]
 obtain ⟨x0,x1,x2,x3⟩:=hx
 have hloop:=place_loop0 n X i m F f
 have h1:=pickF_lt (c:=X 0 0) (n:=30) (by omega)
 have h3:=pickF_lt (c:=X 0 1) (n:=2) (by omega)
 have h5:=pickF_lt (c:=Int.tdiv (X 0 1) 3000) (n:=2) (by omega)
 have h6:=pickF_lt (c:=Int.tdiv (X 0 1) 6) (n:=5) (by omega)
 have h8:=pickF_lt (c:=X 0 2) (n:=40) (by omega)
 have h8b:=pickF_lt (c:=X 0 2) (n:=2199023255552) (by omega)
 have h9:=pickF_lt (c:=Int.tdiv (X 0 3) 4) (n:=3) (by omega)
 have h10:=pickF_lt (c:=Int.tdiv (X 0 3) 12) (n:=30) (by omega)
 have h11:=mul_small h9.1 h9.2 h10.1 h10.2
 have h12:0≤Int.tdiv (pickF (X 0 0) 30) 10∧Int.tdiv (pickF (X 0 0) 30) 10≤3:=by
  rw [Int.tdiv_eq_ediv_of_nonneg h1.1];omega
 have t1:=tdiv_inR x0 (k:=30) (by omega)
 have t2:=tdiv_inR x1 (k:=2) (by omega)
 have t3:=tdiv_inR x1 (k:=6) (by omega)
 have t4:=tdiv_inR x1 (k:=30) (by omega)
 have t5:=tdiv_inR x1 (k:=3000) (by omega)
 have t6:=tdiv_inR x3 (k:=4) (by omega)
 have t7:=tdiv_inR x3 (k:=12) (by omega)
 have en:Int.ofNat n=(n:Int):=rfl
 have hb:(decide ((0:Int)≤i)&&decide (i<Int.ofNat n))=true:=by simp only [Bool.and_eq_true,decide_eq_true_eq];omega
 have hi1:inR .i64 (i+1)=true:=inR_small (by omega) (by omega)
 refine Cond.mkP (fun _=>?_) fun h=>absurd h (by omega)
 refine Cond.mkP (fun _=>?_) fun h=>absurd h (by omega)
 repeat' (first
  | refine Asks.mk (by first | exact hb | exact decide_eq_true rfl | (rw [x0];rfl) | (rw [x1];rfl) | (rw [x2];rfl) | (rw [x3];rfl) | exact t1 | exact t2 | exact t3 | exact t4 | exact t5 | exact t6 | exact t7 | (rw [t1];rfl) | (rw [t2];rfl) | (rw [t3];rfl) | (rw [t4];rfl) | (rw [t5];rfl) | (rw [t6];rfl) | (rw [t7];rfl) | exact inR_small (by omega) (by omega)) ?_
  | (refine Cond.mkP (p:=pickF (X 0 3) 4=3) (fun hc=>?_) fun hc=>?_))
 all_goals
  refine ⟨hloop,?_⟩
  have fl:f.l=mkLow (X 0 2) (X 0 3):=by rw [hf];rfl
  unfold mkLow at fl
  first
   | rw [decide_eq_true hc] at fl
   | rw [decide_eq_false hc] at fl
  simp only at fl
  have fh:f.h=f.l+pickF (Int.tdiv (X 0 3) 4) 3*pickF (Int.tdiv (X 0 3) 12) 30:=by rw [hf];rfl
  refine EqI.mk (by rw [hf];rfl) (EqI.mk (by rw [hf];rfl) (EqI.mk (by rw [hf];rfl) (EqI.mk (by rw [hf];rfl) (EqI.mk (by rw [hf];rfl) (EqI.mk (by rw [hf];rfl) (EqI.mk (by rw [hf];rfl) (EqI.mk (by rw [fl]) (EqI.mk (by rw [fh,fl]) (EqI.mk (by rw [hf];rfl) ?_)))))))))
  refine EqN.mk rfl ⟨xRows _ _,EqI.mk rfl ?_⟩
  refine Asks.mk' _ _ hi1 ?_
  refine EqN.mk rfl ⟨rows_of fun j hj=>?_,EqN.mk rfl (EqN.mk rfl ⟨xRows _ _,EqI.mk rfl hQ⟩)⟩
  have hj:j=0:=by omega
  subst hj
  rfl
def madeAt (X:Nat→Nat→Int) (j:Nat): Made:=⟨j,Nat.beq j 0,(madeL X j).length,getL (madeL X j)⟩
theorem insL_ne (l:List Fact) (f:Fact): insL l f≠[]:=by
 cases l with
 | nil=>simp [insL]
 | cons x l=>unfold insL;split<;>(try split)<;>simp
theorem madeL_ne (X:Nat→Nat→Int) {j:Nat} (h:0<j): madeL X j≠[]:=by
 cases j with
 | zero=>omega
 | succ j=>exact insL_ne _ _
theorem made_exit (n:Nat) (X:Nat→Nat→Int) (j:Nat) (T:LTab) (nx:Made→Made) (i':Int) (m':Nat) (F':Nat→Fact) (Q:Prop) (hj:j=min n 40) (hT:T=[(12034,96,s10b n X (madeAt X j) zeroFact 0,e10b n X (madeAt X j) zeroFact 0)]) (hnx:nx=fun _=>⟨i',false,m',F'⟩):
  kr [kPick29] T 10 3008 12 (s10 n X) (fun _=>e10 n X (madeAt X j).e (madeAt X j).i (madeAt X j).m (madeAt X j).F) nx Q (madeAt X j):=by
 subst hT hnx
 have en:Int.ofNat n=(n:Int):=rfl
 by_cases h0:j=0
 ·have e:madeAt X j=⟨(madeAt X j).i,true,(madeAt X j).m,(madeAt X j).F⟩:=by subst h0;rfl
  have h0i:(madeAt X j).i=0:=by subst h0;rfl
  rw [e]
  generalize (madeAt X j).i=i at*
  generalize (madeAt X j).m=m at*
  generalize (madeAt X j).F=F at*
  refine (made_step0 n X i m m' F F' zeroFact i' i true m F Q).mpr ?_
  refine Cond.mkP (fun h=>absurd h (by omega)) fun _=>?_
  exact EqN.mk rfl ⟨xRows _ _,EqI.mk rfl trivial⟩
 ·have e:madeAt X j=⟨(madeAt X j).i,false,(madeAt X j).m,(madeAt X j).F⟩:=by
   unfold madeAt
   have:Nat.beq j 0=false:=by
    cases hb:Nat.beq j 0 with
    | false=>rfl
    | true=>exact absurd (Nat.eq_of_beq_eq_true hb) h0
   rw [this]
  have h0i:(madeAt X j).i=(j:Int):=rfl
  rw [e]
  generalize (madeAt X j).i=i at*
  generalize (madeAt X j).m=m at*
  generalize (madeAt X j).F=F at*
  have done:EqN m m ((RowsLe m (fun j=>factAV (F j)) fun j=>factAV (F j))∧EqN m m (EqN n n (RowsLe n (xRow X) (xRow X)∧EqI i i True))):=EqN.mk rfl ⟨fRows _ _,EqN.mk rfl (EqN.mk rfl ⟨xRows _ _,EqI.mk rfl trivial⟩)⟩
  refine (made_step n X i m m' F F' zeroFact 0 i' i false m F Q).mpr ?_
  refine Cond.mkP (fun h=>?_) fun _=>done
  exact Cond.mkP (fun h2=>absurd h2 (by omega)) fun _=>done
theorem made_loop (n:Nat) (X:Nat→Nat→Int) (hx : ∀ j,j<n→xOk X j):
  LoopAt PP II false (loopOf II 10 3008) 12 (s10 n X (madeAt X 0)) (e10 n X (madeAt X (min n 40)).e (madeAt X (min n 40)).i (madeAt X (min n 40)).m (madeAt X (min n 40)).F):=by
 have key:=LoopAt.ofT (ι:=Nat) hII [kPick29] 1000
  (fun j=>[(12034,96,s10b n X (madeAt X j) (bif Nat.beq j (min n 40) then zeroFact else mkFact (X j 0) (X j 1) (X j 2) (X j 3)) 0,e10b n X (madeAt X j) (bif Nat.beq j (min n 40) then zeroFact else mkFact (X j 0) (X j 1) (X j 2) (X j 3)) (bif Nat.beq j (min n 40) then 0 else bif Nat.beq j 0 then 0 else (posL (madeL X j) (mkFact (X j 0) (X j 1) (X j 2) (X j 3)): Int)))])
  (c:=loopOf II 10 3008) (ir:=false) 12 (fun j=>j≤min n 40) (fun j=>s10 n X (madeAt X j)) (fun _=>e10 n X (madeAt X (min n 40)).e (madeAt X (min n 40)).i (madeAt X (min n 40)).m (madeAt X (min n 40)).F)
  (fun j=>min n 40-j) (fun j=>j+1) 0 rfl (Nat.zero_le _) ?_
 ·exact key
 intro j hj
 by_cases hN:j=min n 40
 ·have hb:Nat.beq j (min n 40)=true:=by rw [←hN];exact Nat.beq_refl j
  simp only [hb,cond_true]
  have:=made_exit n X j _ _ (((j+1:Nat): Int)) (madeL X (j+1)).length (getL (madeL X (j+1))) ((j+1≤min n 40)∧min n 40-(j+1)<min n 40-j∧True) hN rfl rfl
  rw [←hN]
  rw [←hN] at this
  exact this
 ·have hb:Nat.beq j (min n 40)=false:=by
   cases hb:Nat.beq j (min n 40) with
   | false=>rfl
   | true=>exact absurd (Nat.eq_of_beq_eq_true hb) hN
  simp only [hb,cond_false]
  have hj2:j<n∧j<40:=by omega
  have hq:(j+1≤min n 40)∧min n 40-(j+1)<min n 40-j∧True:=⟨by omega,by omega,trivial⟩
  generalize (madeAt X (min n 40)).e=eN
  have hiN:(madeAt X (min n 40)).i=((min n 40:Nat): Int):=rfl
  by_cases h0:j=0
  ·subst h0
   exact made_next0 n X 0 0 (getL []) eN _ _ _ _ _ rfl (hx 0 hj2.1) rfl hj2.1 hq
  ·have hb0:Nat.beq j 0=false:=by
    cases hb:Nat.beq j 0 with
    | false=>rfl
    | true=>exact absurd (Nat.eq_of_beq_eq_true hb) h0
   have e1:madeAt X j=⟨(j:Int),false,(madeL X j).length,getL (madeL X j)⟩:=by unfold madeAt;rw [hb0]
   have e2:madeAt X (j+1)=⟨(j:Int)+1,false,(insL (madeL X j) (mkFact (X j 0) (X j 1) (X j 2) (X j 3))).length,getL (insL (madeL X j) (mkFact (X j 0) (X j 1) (X j 2) (X j 3)))⟩:=rfl
   rw [hiN]
   generalize (madeAt X (min n 40)).m=mN
   generalize (madeAt X (min n 40)).F=FN
   have hlen:=madeL_len X j
   have:=made_next n X (j:Int) j rfl (madeL X j) eN ((min n 40:Nat): Int) mN FN _ (mkFact (X j 0) (X j 1) (X j 2) (X j 3)) rfl (hx j hj2.1) hj2.1 hj2.2 (by omega) (madeL_ne X (by omega)) hq
   rw [←e1,←e2] at this
   rw [hb0,cond_false]
   exact this
theorem made10_ok (n:Nat) (X:Nat→Nat→Int) (hx : ∀ j,j<n→xOk X j): CallGives PP II 10 [xAV n X] (AH.blank 12) (.ret (factsAV (madeL X (min n 40)).length (getL (madeL X (min n 40)))) (AH.blank 12)):=by
 have hloop:=made_loop n X hx
 by_cases h0:min n 40=0
 ·have h1:CallGives PP II 10 [xAV n X] (AH.blank 12) (.ret .nilSlice (AH.blank 12)):=by
   refine of_kb (ks:=[]) (T:=[(3008,12,s10 n X ⟨0,true,0,getL []⟩,e10 n X true 0 0 (getL []))]) (fun _=>trivial) ?_
   rw [made10_vc]
   rw [h0] at hloop
   exact ⟨hloop,EqN.mk rfl ⟨xRows _ _,rfl⟩⟩
  rw [h0]
  exact h1.le (ResLe.of [] (HeapLe.of rfl rfl rfl rfl rfl (allN_iff.2 fun _ _=>trivial)) rfl)
 ·have e:madeAt X (min n 40)=⟨((min n 40:Nat): Int),false,(madeL X (min n 40)).length,getL (madeL X (min n 40))⟩:=by
   unfold madeAt
   have:Nat.beq (min n 40) 0=false:=by
    cases hb:Nat.beq (min n 40) 0 with
    | false=>rfl
    | true=>exact absurd (Nat.eq_of_beq_eq_true hb) h0
   rw [this]
  rw [e] at hloop
  generalize ((min n 40:Nat): Int)=iN at hloop
  generalize madeL X (min n 40)=L at*
  refine of_kb (ks:=[]) (T:=[(3008,12,s10 n X ⟨0,true,0,getL L⟩,e10 n X false iN L.length (getL L))]) (fun σ=>⟨rfl,rfl,fun i hi=>factAV_le σ _⟩) ?_
  rw [made10_vc]
  exact ⟨hloop,EqN.mk rfl ⟨xRows _ _,Asks.mk' _ _ (by simp) rfl⟩⟩
end Go.Sx
end
section
set_option maxRecDepth 1000000
namespace Go.Sx
open Go
def intRow:Nat→List AV→Bool
 | 0,[]=>true
 | w+1,.int .i64 i::cs=>inR .i64 i&&intRow w cs
 | _,_=>false
def intsRows (w n:Nat) (f:Nat→List AV): Bool:=(List.range n).all fun i=>intRow w (f i)
def getI (cs:List AV) (k:Nat): Int:=match cs.getD k .any with | .int .i64 i=>i | _=>0
noncomputable abbrev kPick67:Known PP II:=kPick 67 (.inr rfl)
def fieldI (a:Int): Int:=match decide (1+pickF a 11>8) with | true=>8 | false=>1+pickF a 11
def qRow (X:Nat→Nat→Int) (j:Nat): List AV:=[.int .i64 (X j 0),.int .i64 (X j 1),.int .i64 (X j 2)]
def qAV (n:Nat) (X:Nat→Nat→Int): AV:=.fslice n 3 (qRow X)
def condI (X:Nat→Nat→Int) (j:Nat) (k:Nat): Int:=match k with | 0=>fieldI (X j 0) | 1=>1+pickF (X j 1) 4 | _=>pickF (X j 2) 40-1
noncomputable def s66 (n:Nat) (X:Nat→Nat→Int) (C:Nat→Nat→Int) (i:Int) (m:Nat): St:={t:=Tr.ofList [(0,qAV n X),(3,.own 12 m 3),(4,.int .i64 i)],nt:=45,H:={n:=13,t:=Tr.ofList [(12,.rows m 3 (qRow C) (.ty 76))]},df:=[]}
noncomputable def e66 (n:Nat) (X:Nat→Nat→Int) (C:Nat→Nat→Int) (i:Int) (m:Nat): GE:=.one (.x 0 (s66 n X C i m))
theorem conds_step (n : Nat) (X C : Nat → Nat → Int) (i i' iN : Int) (m m' mN : Nat) (Q : Prop) : (kr (ι := Int × Nat) [kPick67] [] 66 3008 12 (fun p => s66 n X C p.1 p.2) (fun _ => e66 n X C iN mN) (fun _ => (i', m')) Q (i, m)) = (Cond (decide (i < Int.ofNat n)) (Cond (decide (i < 6)) (Asks (decide (0 ≤ i) && decide (i < Int.ofNat n)) (Asks (inR .i64 (X (Int.toNat i) 0) && true) (Asks (inR .i64 (1 + pickF (X (Int.toNat i) 0) 11)) (Cond (decide (1 + pickF (X (Int.toNat i) 0) 11 > 8)) (Asks (decide (0 ≤ i) && decide (i < Int.ofNat n)) (Asks (inR .i64 (X (Int.toNat i) 1) && true) (Asks (inR .i64 (1 + pickF (X (Int.toNat i) 1) 4)) (Asks (decide (0 ≤ i) && decide (i < Int.ofNat n)) (Asks (decide (X (Int.toNat i) 2 = X (Int.toNat i) 2)) (Asks (inR .i64 (X (Int.toNat i) 2) && true) (Asks (inR .i64 (pickF (X (Int.toNat i) 2) 40 - 1)) (Asks (decide (m ≤ m) && true && true && decide ((m + 1) * 24
 ≤ 140737488355328) && true) (Asks (inR .i64 (i + 1)) (EqN (m + 1) m' (RowsLe (m + 1) (fun i_1 => bif Nat.blt i_1 m then qRow C i_1 else List.take 3 (List.drop (0 + (i_1 - m) * 3) [AV.int .i64 8, AV.int .i64 (1 + pickF (X (Int.toNat i) 1) 4), AV.int .i64 (pickF (X (Int.toNat i) 2) 40 - 1)])) (qRow C) ∧ EqN (m + 1) m' (EqN n n (RowsLe n (qRow X) (qRow X) ∧ EqI (i + 1) i' Q))))))))))))) (Asks (decide (0 ≤ i) && decide (i < Int.ofNat n)) (Asks (inR .i64 (X (Int.toNat i) 1) && true) (Asks (inR .i64 (1 + pickF (X (Int.toNat i) 1) 4)) (Asks (decide (0 ≤ i) && decide (i < Int.ofNat n)) (Asks (decide (X (Int.toNat i) 2 = X (Int.toNat i) 2)) (Asks (inR .i64 (X (Int.toNat i) 2) && true) (Asks (inR .i64 (pickF (X (Int.toNat i) 2) 40 - 1)) (Asks (decide (m ≤ m) && true && true && decide ((m + 1) * 24 ≤ 140737488355328) && true) (Asks (inR .i64 (i + 1)) (EqN (m + 1) m' (RowsLe (m + 1) (fun i_1 => bif
 Nat.blt i_1 m then qRow C i_1 else List.take 3 (List.drop (0 + (i_1 - m) * 3) [AV.int .i64 (1 + pickF (X (Int.toNat i) 0) 11), AV.int .i64 (1 + pickF (X (Int.toNat i) 1) 4), AV.int .i64 (pickF (X (Int.toNat i) 2) 40 - 1)])) (qRow C) ∧ EqN (m + 1) m' (EqN n n (RowsLe n (qRow X) (qRow X) ∧ EqI (i + 1) i' Q))))))))))))))))) (EqN m mN (RowsLe m (qRow C) (qRow C) ∧ EqN m mN (EqN n n (RowsLe n (qRow X) (qRow X) ∧ EqI i iN True))))) (EqN m mN (RowsLe m (qRow C) (qRow C) ∧ EqN m mN (EqN n n (RowsLe n (qRow X) (qRow X) ∧ EqI i iN True))))) := by kernel_rfl
theorem conds_vc (n : Nat) (X C : Nat → Nat → Int) (iN : Int) (mN : Nat) (Q : AV → Prop) : (kb [] [(3008, 12, s66 n X C 0 0, e66 n X C iN mN)] 66 [qAV n X] Q) = (LoopAt PP II false (loopOf II 66 3008) 12 { t := .n (.n (.n .e (some (AV.own 12 0 3)) .e) none .e) (some (AV.fslice n 3 (qRow X))) (.n (.n .e (some (AV.int .i64 0)) .e) none .e), nt := 45, H := { n := 13, t := .n .e none (.n (.n .e none (.n .e (some (ABlk.rows 0 3 (qRow C) (Access.ty 76))) .e)) none .e) }, df := [] } (GE.one (AExit.x 0 { t := .n (.n (.n .e (some (AV.own 12 mN 3)) .e) none .e) (some (AV.fslice n 3 (qRow X))) (.n (.n .e (some (AV.int .i64 iN)) .e) none .e), nt := 45, H := { n := 13, t := .n .e none (.n (.n .e none (.n .e (some (ABlk.rows mN 3 (qRow C) (Access.ty 76))) .e)) none .e) }, df := [] })) ∧ EqN n n (RowsLe n (qRow X) (qRow X) ∧ Asks ((List.all (List.range.loop mN []) fun i => true) && decide (mN ≤ mN)) (Q
 (AV.fslice mN 3 (qRow C))))) := by kernel_rfl
end Go.Sx
end
section
set_option maxRecDepth 1000000
namespace Go.Sx
open Go
theorem qRow_le (X:Nat→Nat→Int) (σ:Nat→Nat) (j:Nat): AVs.le σ (qRow X j) (qRow X j):=⟨⟨rfl,rfl⟩,⟨rfl,rfl⟩,⟨rfl,rfl⟩,trivial⟩
theorem qRows (n:Nat) (X:Nat→Nat→Int): RowsLe n (qRow X) (qRow X):=RowsLe.same fun σ j=>qRow_le X σ j
theorem qrows_of {m:Nat} {g:Nat→List AV} {C:Nat→Nat→Int} (h : ∀ j,j<m→g j=qRow C j): RowsLe m g (qRow C):=fun j hj σ=>by rw [h j hj];exact qRow_le C σ j
def x3Ok (X:Nat→Nat→Int) (j:Nat): Prop:=inR .i64 (X j 0)=true∧inR .i64 (X j 1)=true∧inR .i64 (X j 2)=true
theorem push_rows {m k:Nat} {C:Nat→Nat→Int} {r:List AV} (hr:r.length=3) (hk:r=qRow C m) (hm:k=m+1):
  RowsLe k (fun j=>bif Nat.blt j m then qRow C j else List.take 3 (List.drop (0+(j-m)*3) r)) (qRow C):=by
 refine qrows_of fun j hj=>?_
 by_cases h:j<m
 ·simp only [(Nat.blt_eq ..).mpr h,cond_true]
 ·have hj:j=m:=by omega
  have hb:Nat.blt j m=false:=by
   cases hb:Nat.blt j m with
   | false=>rfl
   | true=>exact absurd ((Nat.blt_eq ..).mp hb) h
  simp only [hb,cond_false]
  rw [hj,Nat.sub_self,←hk]
  show List.take 3 r=r
  exact List.take_of_length_le (by omega)
theorem conds_loop (n:Nat) (X:Nat→Nat→Int) (hx : ∀ j,j<n→x3Ok X j): LoopAt PP II false (loopOf II 66 3008) 12 (s66 n X (condI X) 0 0) (e66 n X (condI X) (min n 6:Nat) (min n 6)):=
 LoopAt.of (ι:=Int×Nat) hII [kPick67] (lamT_ok PP II []) 1000 12 (fun p=>p.1=(p.2:Int)∧p.2≤min n 6) (fun p=>s66 n X (condI X) p.1 p.2) (fun _=>e66 n X (condI X) (min n 6:Nat) (min n 6)) (fun p=>min n 6-p.2) (fun p=>(p.1+1,p.2+1)) (0,0) rfl ⟨rfl,Nat.zero_le _⟩ fun p hp=>by
  obtain ⟨i,m⟩:=p
  obtain ⟨h1,h2⟩:=hp
  simp only at h1 h2
  have hiN:((min n 6:Nat): Int)=((min n 6:Nat): Int):=rfl
  have hlt:min n 6≤n∧min n 6≤6:=by omega
  have hge:min n 6=n∨min n 6=6:=by omega
  generalize min n 6=N at*
  generalize hN:(N:Int)=iN at*
  refine (conds_step n X (condI X) i (i+1) iN m (m+1) N _).mpr ?_
  have en:Int.ofNat n=(n:Int):=rfl
  have e1:Int.toNat i=m:=by omega
  rw [e1]
  have done:i=iN→EqN m N (RowsLe m (qRow (condI X)) (qRow (condI X))∧EqN m N (EqN n n (RowsLe n (qRow X) (qRow X)∧EqI i iN True))):=fun h=>EqN.mk (by omega) ⟨qRows _ _,EqN.mk (by omega) (EqN.mk rfl ⟨qRows _ _,EqI.mk h trivial⟩)⟩
  refine Cond.mkP (fun ha=>Cond.mkP (fun hb=>?_) fun hb=>done (by omega)) fun ha=>done (by omega)
  obtain ⟨x0,x1,x2⟩:=hx m (by omega)
  have p0:=pickF_lt (c:=X m 0) (n:=11) (by omega)
  have p1:=pickF_lt (c:=X m 1) (n:=4) (by omega)
  have p2:=pickF_lt (c:=X m 2) (n:=40) (by omega)
  have hb1:(decide (0≤i)&&decide (i<Int.ofNat n))=true:=by simp only [Bool.and_eq_true,decide_eq_true_eq];omega
  have hi:inR .i64 (i+1)=true:=inR_small (by omega) (by omega)
  have hs:(decide (m≤m)&&true&&true&&decide ((m+1)*24≤140737488355328)&&true)=true:=by simp only [Bool.and_eq_true,Bool.and_true,decide_eq_true_eq];omega
  have fin : ∀ {r:List AV} {Z:Prop},r.length=3→r=qRow (condI X) m→Z→Asks (inR .i64 (i+1)) (EqN (m+1) (m+1) (RowsLe (m+1) (fun j=>bif Nat.blt j m then qRow (condI X) j else List.take 3 (List.drop (0+(j-m)*3) r)) (qRow (condI X))∧EqN (m+1) (m+1) (EqN n n (RowsLe n (qRow X) (qRow X)∧EqI (i+1) (i+1) Z)))):=fun hl hr z=>
   Asks.mk' _ _ hi (EqN.mk rfl ⟨push_rows hl hr rfl,EqN.mk rfl (EqN.mk rfl ⟨qRows _ _,EqI.mk rfl z⟩)⟩)
  refine Asks.mk' _ _ hb1 (Asks.mk' _ _ (by rw [x0];rfl) (Asks.mk' _ _ (inR_small (by omega) (by omega)) (Cond.mkP (fun hc=>?_) fun hc=>?_)))
  all_goals
   refine Asks.mk' _ _ hb1 (Asks.mk' _ _ (by rw [x1];rfl) (Asks.mk' _ _ (inR_small (by omega) (by omega)) (Asks.mk' _ _ hb1 (Asks.mk' _ _ (decide_eq_true rfl) (Asks.mk' _ _ (by rw [x2];rfl) (Asks.mk' _ _ (inR_small (by omega) (by omega)) (Asks.mk' _ _ hs (fin rfl ?_ ?_))))))))
  ·show _=[AV.int .i64 (fieldI (X m 0)),_,_]
   have:fieldI (X m 0)=8:=by unfold fieldI;rw [decide_eq_true hc]
   rw [this];rfl
  ·exact ⟨⟨by omega,by omega⟩,by omega,rfl⟩
  ·show _=[AV.int .i64 (fieldI (X m 0)),_,_]
   have:fieldI (X m 0)=1+pickF (X m 0) 11:=by unfold fieldI;rw [decide_eq_false hc]
   rw [this];rfl
  ·exact ⟨⟨by omega,by omega⟩,by omega,rfl⟩
theorem conds_ok (n:Nat) (X:Nat→Nat→Int) (hx : ∀ j,j<n→x3Ok X j): CallGives PP II 66 [qAV n X] (AH.blank 12) (.ret (.fslice (min n 6) 3 (qRow (condI X))) (AH.blank 12)):=by
 have hloop:=conds_loop n X hx
 generalize min n 6=N at*
 generalize (N:Int)=iN at*
 refine of_kb (ks:=[]) (T:=[(3008,12,s66 n X (condI X) 0 0,e66 n X (condI X) iN N)]) (fun σ=>⟨rfl,rfl,fun i hi=>qRow_le _ σ i⟩) ?_
 rw [conds_vc]
 exact ⟨hloop,EqN.mk rfl ⟨qRows _ _,Asks.mk' _ _ (by simp) rfl⟩⟩
def rowsX (f:Nat→List AV) (j k:Nat): Int:=getI (f j) k
theorem intRow_ok : ∀ (w:Nat) (cs:List AV),intRow w cs=true→cs.length=w∧ ∀ k,k<w→cs[k]? =some (.int .i64 (getI cs k))∧inR .i64 (getI cs k)=true
 | 0,[],_=>⟨rfl,fun k hk=>absurd hk (Nat.not_lt_zero _)⟩
 | w+1,.int .i64 i::cs,h=>by
  simp only [intRow,Bool.and_eq_true] at h
  obtain ⟨h1,h2⟩:=intRow_ok w cs h.2
  refine ⟨by simp [h1],fun k hk=>?_⟩
  cases k with
  | zero=>exact ⟨rfl,h.1⟩
  | succ k=>exact h2 k (by omega)
 | 0,_::_,h=>by cases h
theorem intRow3 {cs:List AV} (h:intRow 3 cs=true): cs=[.int .i64 (getI cs 0),.int .i64 (getI cs 1),.int .i64 (getI cs 2)]∧inR .i64 (getI cs 0)=true∧inR .i64 (getI cs 1)=true∧inR .i64 (getI cs 2)=true:=by
 obtain ⟨h1,h2⟩:=intRow_ok 3 cs h
 obtain ⟨a0,b0⟩:=h2 0 (by omega)
 obtain ⟨a1,b1⟩:=h2 1 (by omega)
 obtain ⟨a2,b2⟩:=h2 2 (by omega)
 refine ⟨?_,b0,b1,b2⟩
 match cs,h1 with
 | [x,y,z],_=>
  simp only [List.getElem?_cons_zero,List.getElem?_cons_succ,Option.some.injEq] at a0 a1 a2
  rw [←a0,←a1,←a2]
theorem intRow4 {cs:List AV} (h:intRow 4 cs=true): cs=[.int .i64 (getI cs 0),.int .i64 (getI cs 1),.int .i64 (getI cs 2),.int .i64 (getI cs 3)]∧inR .i64 (getI cs 0)=true∧inR .i64 (getI cs 1)=true∧inR .i64 (getI cs 2)=true∧inR .i64 (getI cs 3)=true:=by
 obtain ⟨h1,h2⟩:=intRow_ok 4 cs h
 obtain ⟨a0,b0⟩:=h2 0 (by omega)
 obtain ⟨a1,b1⟩:=h2 1 (by omega)
 obtain ⟨a2,b2⟩:=h2 2 (by omega)
 obtain ⟨a3,b3⟩:=h2 3 (by omega)
 refine ⟨?_,b0,b1,b2,b3⟩
 match cs,h1 with
 | [x,y,z,u],_=>
  simp only [List.getElem?_cons_zero,List.getElem?_cons_succ,Option.some.injEq] at a0 a1 a2 a3
  rw [←a0,←a1,←a2,←a3]
theorem intsRows_ok {w n:Nat} {f:Nat→List AV} (h:intsRows w n f=true) {j:Nat} (hj:j<n): intRow w (f j)=true:=List.all_eq_true.1 h j (List.mem_range.2 hj)
noncomputable def kConds:Known PP II:=Known.pure 66
 (fun X args kn=>match args with
  | [.fslice n 3 f]=>X.assert (intsRows 3 n f) (kn (.fslice (min n 6) 3 (qRow (condI (rowsX f)))))
  | _=>X.fail)
 fun X sem hX args kn h=>by
  split at h
  ·rename_i n f
   obtain ⟨h1,h2⟩:=hX.assert _ _ h
   refine ⟨_,h2,fun _=>rfl,fun _=>rfl,(conds_ok n (rowsX f) fun j hj=>?_).argsLe ⟨⟨rfl,rfl,fun i hi=>?_⟩,trivial⟩⟩
   ·exact (intRow3 (intsRows_ok h1 hj)).2
   ·rw [(intRow3 (intsRows_ok h1 hi)).1];exact qRow_le (rowsX f) _ i
  ·exact absurd h hX.fail
noncomputable def kMade10:Known PP II:=Known.pure 10
 (fun X args kn=>match args with
  | [.fslice n 4 f]=>X.assert (intsRows 4 n f) (kn (factsAV (madeL (rowsX f) (min n 40)).length (getL (madeL (rowsX f) (min n 40)))))
  | _=>X.fail)
 fun X sem hX args kn h=>by
  split at h
  ·rename_i n f
   obtain ⟨h1,h2⟩:=hX.assert _ _ h
   refine ⟨_,h2,fun _=>rfl,fun _=>rfl,(made10_ok n (rowsX f) fun j hj=>?_).argsLe ⟨⟨rfl,rfl,fun i hi=>?_⟩,trivial⟩⟩
   ·exact (intRow4 (intsRows_ok h1 hj)).2
   ·rw [(intRow4 (intsRows_ok h1 hi)).1];exact xRow_le (rowsX f) _ i
  ·exact absurd h hX.fail
end Go.Sx
end
section
set_option maxRecDepth 1000000
namespace Go.Sx
open Go
theorem root41_ok {n:Int} {s:List UInt8} (hn:okI n=true) (hs:s.length≤1000): CallGives PP II 41 [.int .i64 n,.str s] HB (.ret (.str (rootF n s)) HB):=by
 refine of_kh (ks:=[kInts,kSum]) (T:=[]) (fun σ=>rfl) ?_
 rw [root41_vc n s]
 have hl:=intsF_len [n]
 have e:List.length [n]=1:=rfl
 rw [e] at hl
 refine Asks.mk ?_ (Asks.mk (decide_eq_true (by omega)) (Asks.mk (decide_eq_true (by simp only [sapp_len,List.length_cons,List.length_nil];omega)) (Asks.mk (Nat.ble_eq_true_of_le (by simp only [sapp_len,List.length_cons,List.length_nil];omega)) rfl)))
 unfold okI at hn
 rw [hn];rfl
noncomputable def kRoot41:Known PP II:=Known.onHB 41
 (fun X args kn=>match args with
  | [.int .i64 n,.str s]=>X.assert (okI n&&Nat.ble s.length 1000) (kn (.str (rootF n s)))
  | _=>X.fail)
 fun X sem hX args kn h=>by
  split at h
  ·obtain ⟨h1,h2⟩:=hX.assert _ _ h
   simp only [Bool.and_eq_true] at h1
   exact ⟨_,h2,fun _=>rfl,fun _=>rfl,root41_ok h1.1 (Nat.le_of_ble_eq_true h1.2)⟩
  ·exact absurd h hX.fail
theorem root16_vc (n : Nat) (F : Nat → Fact) (Q : AV → Prop) : (kh [kValids, kGrow, kDig42, kRoot41] [] 16 [factsAV n F] Q) = (let zz1 := (digF { lo := fun j => if h : j = 0 then Node.lo (topF (growT 20 n (factAt fun i => factAV (F i)))) 0 else if h : j = 1 then Node.lo (topF (growT 20 n (factAt fun i => factAV (F i)))) 1 else if h : j = 2 then Node.lo (topF (growT 20 n (factAt fun i => factAV (F i)))) 2 else if h : j = 3 then Node.lo (topF (growT 20 n (factAt fun i => factAV (F i)))) 3 else if h : j = 4 then Node.lo (topF (growT 20 n (factAt fun i => factAV (F i)))) 4 else if h : j = 5 then Node.lo (topF (growT 20 n (factAt fun i => factAV (F i)))) 5 else if h : j = 6 then Node.lo (topF (growT 20 n (factAt fun i => factAV (F i)))) 6 else if h : j = 7 then Node.lo (topF (growT 20 n (factAt fun i => factAV (F i)))) 7 else 0, hi := fun j => if h : j = 0 then Node.hi (topF (growT 20 n (factAt fun i => factAV (F i)))) 0 else if h : j = 1 then Node.hi (topF (growT 20 n (factAt fun i => factAV (F i)))) 1 else if h : j = 2 then Node.hi (topF (growT 20 n (factAt fun i => factAV (F i)))) 2 else if h : j = 3 then Node.hi (topF (growT 20 n (factAt fun i => factAV (F i)))) 3 else if h : j = 4 then Node.hi (topF (growT 20 n (factAt fun i => factAV (F i)))) 4 else if h : j = 5 then Node.hi (topF (growT 20 n (factAt fun i => factAV (F i)))) 5 else if h : j = 6 then Node.hi (topF (growT 20 n (factAt fun i => factAV (F i)))) 6 else if h : j = 7 then Node.hi (topF (growT 20 n (factAt fun i => factAV (F i)))) 7 else 0, l := Node.l (topF (growT 20 n (factAt fun i => factAV (F i)))), r := Node.r (topF (growT 20 n (factAt fun i => factAV (F i)))) });
 (Asks (decide (n ≤ 1000000) && isFacts n fun i => factAV (F i)) (Cond (!validsF n (factAt fun i => factAV (F i))) (Q (AV.tup [AV.str [], AV.int .i64 210])) (Cond (decide (Int.ofNat n = 0)) (Q (AV.tup [AV.str (rootF 0 []), AV.int .i64 0])) (Asks (isFacts n fun i => factAV (F i)) (Asks (growOk 20 n) (Asks (factsOk n (factAt fun i => factAV (F i))) (Asks (nodeOk { lo := fun j => if h : j = 0 then Node.lo (topF (growT 20 n (factAt fun i => factAV (F i)))) 0 else if h : j = 1 then Node.lo (topF (growT 20 n (factAt fun i => factAV (F i)))) 1 else if h : j = 2 then Node.lo (topF (growT 20 n (factAt fun i => factAV (F i)))) 2 else if h : j = 3 then Node.lo (topF (growT 20 n (factAt fun i => factAV (F i)))) 3 else if h : j = 4 then Node.lo (topF (growT 20 n (factAt fun i => factAV (F i)))) 4 else if h : j = 5 then Node.lo (topF (growT 20 n (factAt fun i => factAV (F i)))) 5 else if h : j = 6 then Node.lo (topF (growT 20 n (factAt fun i => factAV (F i)))) 6 else if h : j = 7 then Node.lo (topF (growT 20 n (factAt fun i => factAV (F i)))) 7 else 0, hi := fun j => if h : j = 0 then Node.hi (topF (growT 20 n (factAt fun i => factAV (F i)))) 0 else if h : j = 1 then Node.hi (topF (growT 20 n (factAt fun i => factAV (F i)))) 1 else if h : j = 2 then Node.hi (topF (growT 20 n (factAt fun i => factAV (F i)))) 2 else if h : j = 3 then Node.hi (topF (growT 20 n (factAt fun i => factAV (F i)))) 3 else if h : j = 4 then Node.hi (topF (growT 20 n (factAt fun i => factAV (F i)))) 4 else if h : j = 5 then Node.hi (topF (growT 20 n (factAt fun i => factAV (F i)))) 5 else if h : j = 6 then Node.hi (topF (growT 20 n (factAt fun i => factAV (F i)))) 6 else if h : j = 7 then Node.hi (topF (growT 20 n (factAt fun i => factAV (F i)))) 7 else 0, l := Node.l (topF (growT 20 n (factAt fun i => factAV (F i)))), r := Node.r (topF (growT 20 n (factAt fun i => factAV (F i)))) })
 (Asks (okI (Int.ofNat n) && Nat.ble (List.length zz1) 1000) (Q (AV.tup [AV.str (rootF (Int.ofNat n) zz1), AV.int .i64 0]))))))))))) := by kernel_rfl
end Go.Sx
end
