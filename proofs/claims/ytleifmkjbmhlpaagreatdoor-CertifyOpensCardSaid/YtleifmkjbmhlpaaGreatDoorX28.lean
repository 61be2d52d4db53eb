/- CertifyOpens is proved, part 28. -/
import Derived.Test.YtleifmkjbmhlpaaGreatDoorX27
set_option linter.unusedVariables false
set_option linter.unusedSimpArgs false
set_option linter.unusedSectionVars false
section
set_option maxRecDepth 1000000
namespace Go.Sx
open Go
theorem exq_round (q:Query) (lo hi:Nat→Int) (b:Bool) (i:Int) (j:Nat) (hij:i=(j:Int)) (hn:q.nw≤6) (hj:j<q.nw) (hc:(1≤q.C j 0∧q.C j 0≤8)∧(1≤q.C j 1∧q.C j 1≤4)) (Q:Prop)
  (hQ:rowX q.C (coverC lo hi) j=false→Q) (hb:rowX q.C (coverC lo hi) j=true→b=true):
  kr [kExc] [] 13 2005 14 (s13 q lo hi) (fun _=>e13 b) (fun i=>i+1) Q i:=by
 refine (exq_step q lo hi b i Q).mpr ?_
 have e1:Int.toNat i=j:=by omega
 have en:Int.ofNat q.nw=(q.nw:Int):=rfl
 rw [e1]
 unfold rowX at hQ hb
 have hi1:inR .i64 (i+1)=true:=inR_small (by omega) (by omega)
 have hf:inR .i64 (q.C j 0-1)=true:=inR_small (by omega) (by omega)
 have hx:(decide (0≤q.C j 0-1)&&decide (q.C j 0-1<8))=true:=by simp only [Bool.and_eq_true,decide_eq_true_eq];omega
 have hx1:decide (Int.toNat (q.C j 0-1)*1+0<16)=true:=decide_eq_true (by omega)
 have hx2:decide (Int.toNat (q.C j 0-1)*1+8<16)=true:=decide_eq_true (by omega)
 have hr:(decide (0≤i)&&decide (i<Int.ofNat q.nw))=true:=by simp only [Bool.and_eq_true,decide_eq_true_eq];omega
 have ho:(decide (1≤q.C j 1)&&decide (q.C j 1≤4))=true:=by simp only [Bool.and_eq_true,decide_eq_true_eq];omega
 refine Cond.mkP (fun _=>?_) fun h=>absurd h (by omega)
 refine Asks.mk' _ _ hr (Asks.mk' _ _ hf (Asks.mk' _ _ hr (Asks.mk' _ _ hx (Asks.mk' _ _ hx1 (Asks.mk' _ _ hx (Asks.mk' _ _ hx2 (Asks.mk' _ _ ho (Cond.mk (fun h=>?_) fun h=>?_))))))))
 ·rw [hb h];exact ⟨rfl,trivial⟩
 ·refine Asks.mk' _ _ hi1 ?_
  exact EqI.mk rfl (EqI.mk rfl (EqI.mk rfl (EqI.mk rfl (EqI.mk rfl (EqI.mk rfl (EqI.mk rfl (EqI.mk rfl (EqI.mk rfl (EqI.mk rfl (EqI.mk rfl (EqI.mk rfl (EqI.mk rfl (EqI.mk rfl (EqI.mk rfl (EqI.mk rfl (EqN.mk rfl ⟨qRows _ _,EqN.mk rfl ⟨gRows _ _,EqI.mk rfl (EqI.mk rfl (EqB.mk rfl (EqB.mk rfl (EqI.mk rfl (EqI.mk rfl (hQ h))))))⟩⟩))))))))))))))))
theorem exq_loop (q:Query) (lo hi:Nat→Int) (hn:q.nw≤6) (hc:condsOp q): LoopAt PP II false (loopOf II 13 2005) 14 (s13 q lo hi 0) (e13 (exclF q.nw q.C (coverC lo hi))):=by
 have key:=LoopAt.of (ι:=Nat) hII [kExc] (lamT_ok PP II []) 1000 (c:=loopOf II 13 2005) (ir:=false) 14 (fun j=>j≤q.nw∧ ∀ k,k<j→rowX q.C (coverC lo hi) k=false) (fun j=>s13 q lo hi (j:Int)) (fun _=>e13 (exclF q.nw q.C (coverC lo hi))) (fun j=>q.nw-j) (fun j=>j+1) 0 rfl ⟨Nat.zero_le _,fun k hk=>absurd hk (Nat.not_lt_zero _)⟩ fun j hj=>?_
 ·exact key
 obtain ⟨h1,h2⟩:=hj
 by_cases hlt:j<q.nw
 ·have:=exq_round q lo hi (exclF q.nw q.C (coverC lo hi)) (j:Int) j rfl hn hlt (hc j hlt) ((j+1≤q.nw∧ ∀ k,k<j+1→rowX q.C (coverC lo hi) k=false)∧q.nw-(j+1)<q.nw-j∧(e13 (exclF q.nw q.C (coverC lo hi))).pick=(e13 (exclF q.nw q.C (coverC lo hi))).pick)
   (fun h=>⟨⟨hlt,fun k hk=>by
    by_cases e:k=j
    ·rw [e];exact h
    ·exact h2 k (by omega)⟩,by omega,rfl⟩)
   (fun h=>List.any_eq_true.2 ⟨j,List.mem_range.2 hlt,h⟩)
  exact this
 ·have hj:j=q.nw:=by omega
  have hfalse:exclF q.nw q.C (coverC lo hi)=false:=by
   unfold exclF
   rw [List.any_eq_false]
   intro k hk
   rw [h2 k (by have:=List.mem_range.1 hk;omega)]
   exact Bool.false_ne_true
  rw [hfalse]
  have done : ∀ (i:Int) (Q:Prop),i=(q.nw:Int)→kr [kExc] [] 13 2005 14 (s13 q lo hi) (fun _=>e13 false) (fun i=>i+1) Q i:=fun i Q hiN=>by
   refine (exq_step q lo hi false i Q).mpr ?_
   have en:Int.ofNat q.nw=(q.nw:Int):=rfl
   refine Cond.mkP (fun h=>absurd h (by omega)) fun _=>?_
   trivial
  exact done (j:Int) _ (by omega)
theorem exq_ok (q:Query) (lo hi:Nat→Int) (hn:q.nw≤6) (hc:condsOp q): CallGives PP II 13 [.agg (queryAV q),.agg (coverC lo hi)] (AH.blank 12) (.ret (.bool (exclF q.nw q.C (coverC lo hi))) (AH.blank 12)):=by
 have hl:=exq_loop q lo hi hn hc
 generalize exclF q.nw q.C (coverC lo hi)=b at*
 refine of_kb (ks:=[]) (T:=[(2005,14,s13 q lo hi 0,e13 b)]) (fun _=>rfl) ?_
 rw [exq_vc]
 refine ⟨hl,?_⟩
 refine EqI.mk rfl (EqI.mk rfl (EqI.mk rfl (EqI.mk rfl (EqI.mk rfl (EqI.mk rfl (EqI.mk rfl (EqI.mk rfl (EqI.mk rfl (EqI.mk rfl (EqI.mk rfl (EqI.mk rfl (EqI.mk rfl (EqI.mk rfl (EqI.mk rfl (EqI.mk rfl (EqN.mk rfl ⟨qRows _ _,EqN.mk rfl ⟨gRows _ _,EqI.mk rfl (EqI.mk rfl (EqB.mk rfl (EqB.mk rfl (EqI.mk rfl ?_))))⟩⟩))))))))))))))))
 cases b with
 | true=>rfl
 | false=>rfl
noncomputable def kExcQ:Known PP II:=Known.pure 13
 (fun X args kn=>match args with
  | [.agg [.fslice nw 3 f,.fslice ng 1 g,.int .i64 a,.int .i64 fl,.str nu,.str de,.int .i64 top],.agg cs]=>X.assert (intsRows 3 nw f&&intsRows 1 ng g) (X.assert (opsB nw (rowsX f)&&all64 cs&&Nat.beq cs.length 16) (kn (.bool (exclF nw (rowsX f) cs))))
  | _=>X.fail)
 fun X sem hX args kn h=>by
  split at h
  ·rename_i nw f ng g a fl nu de top cs
   obtain ⟨h1,h2⟩:=hX.assert _ _ h
   obtain ⟨h3,h4⟩:=hX.assert _ _ h2
   simp only [Bool.and_eq_true,opsB,decide_eq_true_eq] at h1 h3
   obtain ⟨⟨⟨h5,h6⟩,h7⟩,h8⟩:=h3
   have he:=cover_eq h7 (Nat.eq_of_beq_eq_true h8)
   refine ⟨_,h4,fun _=>rfl,fun σ=>?_,?_⟩
   ·show [_,AV.agg (AVs.ren σ cs)]=_
    rw [all64_ren h7];rfl
   ·have:=exq_ok ⟨nw,rowsX f,ng,fun j=>getI (g j) 0,a,fl,nu,de,top⟩ (fun j=>int64At cs j) (fun j=>int64At cs (8+j)) h5 (fun j hj=>by
     have:=List.all_eq_true.1 h6 j (List.mem_range.2 hj)
     simp only [Bool.and_eq_true,decide_eq_true_eq] at this
     exact ⟨⟨this.1.1.1,this.1.1.2⟩,this.1.2,this.2⟩)
    rw [←he] at this
    refine this.argsLe ⟨query_args h1.1 h1.2,?_,trivial⟩
    rw [he]
    exact ⟨⟨rfl,rfl⟩,⟨rfl,rfl⟩,⟨rfl,rfl⟩,⟨rfl,rfl⟩,⟨rfl,rfl⟩,⟨rfl,rfl⟩,⟨rfl,rfl⟩,⟨rfl,rfl⟩,⟨rfl,rfl⟩,⟨rfl,rfl⟩,⟨rfl,rfl⟩,⟨rfl,rfl⟩,⟨rfl,rfl⟩,⟨rfl,rfl⟩,⟨rfl,rfl⟩,⟨rfl,rfl⟩,trivial⟩
  ·exact absurd h hX.fail
end Go.Sx
end
