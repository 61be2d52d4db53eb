/- CertifyOpens is proved, part 38. -/
import Derived.Test.YtleifmkjbmhlpaaGreatDoorX36
import Derived.Test.YtleifmkjbmhlpaaGreatDoorX35
import Derived.Test.YtleifmkjbmhlpaaGreatDoorX23
import Derived.Test.YtleifmkjbmhlpaaGreatDoorX17
import Derived.Test.YtleifmkjbmhlpaaGreatDoorX37
set_option linter.unusedVariables false
set_option linter.unusedSimpArgs false
set_option linter.unusedSectionVars false
section
set_option maxRecDepth 1000000
namespace Go.Sx
open Go Small
end Go.Sx
end
section
set_option maxRecDepth 1000000
namespace Go.Sx
open Go
theorem place_lt {x y:Fact} (h:ltF x y=true): placeF x y<0∧0<placeF y x:=by
 unfold ltF at h
 simp only [Bool.or_eq_true,Bool.and_eq_true,decide_eq_true_eq] at h
 unfold placeF cmpF orF
 repeat' split<;>omega
theorem small_valid {x:Fact} (h:small x): validF x=true:=by
 obtain ⟨h1,h2,h3,h4,h5,h6,h7,h8,h9,h10,h11⟩:=h
 unfold validF
 simp only [Bool.and_eq_true,decide_eq_true_eq,ge_iff_le]
 refine ⟨⟨⟨⟨⟨⟨⟨⟨⟨?_,?_⟩,?_⟩,?_⟩,?_⟩,?_⟩,h7⟩,?_⟩,?_⟩,?_⟩<;>omega
theorem small_ok {x:Fact} (h:small x): factOk x=true:=by
 obtain ⟨h1,h2,h3,h4,h5,h6,h7,h8,h9,h10,h11⟩:=h
 have hd:0≤x.d∧x.d≤30:=by
  rw [h7]
  obtain ⟨k,hk⟩: ∃ k:Nat,x.t=(k:Int):=⟨x.t.toNat,by omega⟩
  have:Int.tdiv x.t 10=((k/10:Nat): Int):=by rw [hk];rfl
  rw [this];omega
 unfold factOk okI
 simp only [Bool.and_eq_true,decide_eq_true_eq]
 omega
theorem sortedTo_mk {F:Nat→Fact}: ∀ {k:Nat},(∀ i,i+1≤k→ltF (F i) (F (i+1))=true)→sortedTo F k=true
 | 0,_=>rfl
 | k+1,h=>by
  have:=(place_lt (h k (Nat.le_refl _))).2
  show (!decide (placeF (F (k+1)) (F k)<0)&&sortedTo F k)=true
  rw [sortedTo_mk fun i hi=>h i (by omega),decide_eq_false (by omega)];rfl
theorem made_prove (X:Nat→Nat→Int) {i:Nat} (hi:i≤40): proveOk (madeL X i).length (getL (madeL X i))=true:=by
 have hlen:=madeL_len X i
 have hs:=madeL_small X i
 have ho:=madeL_ord X i
 generalize madeL X i=l at*
 have hv:validsF l.length (getL l)=true:=by
  unfold validsF allOk
  rw [decide_eq_true (by omega),Bool.and_true,Bool.and_eq_true]
  refine ⟨List.all_eq_true.2 fun k hk=>?_,sortedTo_mk fun j hj=>ordL_get l j ho (by omega)⟩
  have hk:=List.mem_range.1 hk
  unfold okAt
  rw [small_valid (hs _ (getL_mem hk)),Bool.true_and]
  cases k with
  | zero=>rfl
  | succ k=>
   have:=(place_lt (ordL_get l k ho hk)).1
   show (!decide (placeF (getL l k) (getL l (k+1))≥0))=true
   rw [decide_eq_false (by omega)];rfl
 unfold proveOk
 rw [hv,Bool.true_and]
 cases h0:Nat.beq l.length 0 with
 | true=>rfl
 | false=>
  have:l.length≠0:=fun e=>by rw [e] at h0;cases h0
  rw [Bool.false_or]
  simp only [Bool.and_eq_true,growOk]
  refine ⟨⟨⟨Nat.ble_eq_true_of_le (by omega),Nat.ble_eq_true_of_le (by show 2*l.length≤1048576;omega)⟩,?_⟩,Nat.ble_eq_true_of_le (by omega)⟩
  exact List.all_eq_true.2 fun k hk=>small_ok (hs _ (getL_mem (List.mem_range.1 hk)))
theorem condI_facts (X:Nat→Nat→Int) (j:Nat): (1≤condI X j 0∧condI X j 0≤8)∧(1≤condI X j 1∧condI X j 1≤4)∧(-1≤condI X j 2∧condI X j 2≤38):=by
 have h1:=pickF_lt (c:=X j 0) (n:=11) (by omega)
 have h2:=pickF_lt (c:=X j 1) (n:=4) (by omega)
 have h3:=pickF_lt (c:=X j 2) (n:=40) (by omega)
 refine ⟨?_,?_,?_⟩
 ·show 1≤fieldI (X j 0)∧fieldI (X j 0)≤8
  unfold fieldI
  split
  ·omega
  ·rename_i h;have:=of_decide_eq_false h;omega
 ·show 1≤1+pickF (X j 1) 4∧1+pickF (X j 1) 4≤4;omega
 ·show -1≤pickF (X j 2) 40-1∧pickF (X j 2) 40-1≤38;omega
theorem getD_app {l m:List Int} {i:Nat} {d:Int} (h:i<l.length): (l++m).getD i d=l.getD i d:=by
 rw [List.getD_eq_getElem?_getD,List.getD_eq_getElem?_getD,List.getElem?_append_left h]
theorem grpL_facts (p:Int): ∀ (k i:Nat),i<(grpL p k).length→(1≤(grpL p k).getD i 0∧(grpL p k).getD i 0≤(k:Int))∧(i=0∨(grpL p k).getD (i-1) 0<(grpL p k).getD i 0)
 | 0,i,h=>by simp [grpL] at h
 | k+1,i,h=>by
  have ih:=grpL_facts p k
  unfold grpL at h⊢
  split at h
  ·rename_i hb
   simp only [List.length_append,List.length_singleton] at h
   by_cases e:i<(grpL p k).length
   ·have:=ih i e
    rw [getD_app e]
    refine ⟨by omega,?_⟩
    rcases this.2 with h0 | h0
    ·exact .inl h0
    ·right;rw [getD_app (by omega)];exact h0
   ·have ei:i=(grpL p k).length:=by omega
    have el:(grpL p k++[(k:Int)+1]).getD i 0=(k:Int)+1:=by
     rw [ei,List.getD_eq_getElem?_getD,List.getElem?_append_right (Nat.le_refl _),Nat.sub_self];rfl
    rw [el]
    refine ⟨by omega,?_⟩
    by_cases h0:i=0
    ·exact .inl h0
    ·right
     have:=ih (i-1) (by omega)
     rw [getD_app (by omega)]
     omega
  ·rename_i hb
   have:=ih i h
   refine ⟨by omega,this.2⟩
theorem isTen_mk {k:Nat} (h:k<11): isTen (tenN k) (tenD k)=true:=List.any_eq_true.2 ⟨k,List.mem_range.2 h,by simp⟩
theorem made_qok (agg:Int) (n:Nat) (X:Nat→Nat→Int) (g top:Int): qok (madeQ agg n X g top)=true:=by
 have hg:=grpL_facts (pickF g 64) 6
 have hl:=grpL_len (pickF g 64) 6
 have h5:=pickF_lt (c:=agg) (n:=5) (by omega)
 have h2:=pickF_lt (c:=Int.tdiv agg 5) (n:=2) (by omega)
 have h11:=pickF_lt (c:=Int.tdiv agg 10) (n:=11) (by omega)
 have ht:=pickF_lt (c:=top) (n:=5) (by omega)
 unfold qok
 simp only [Bool.and_eq_true,decide_eq_true_eq]
 refine ⟨⟨⟨⟨⟨?_,hl⟩,?_⟩,?_⟩,?_⟩,?_⟩
 ·show min n 6≤6;omega
 ·refine List.all_eq_true.2 fun j _=>?_
  have:=condI_facts X j
  show (decide (1≤condI X j 0)&&decide (condI X j 0≤8)&&decide (1≤condI X j 1)&&decide (condI X j 1≤4)&&decide (-1≤condI X j 2)&&decide (condI X j 2≤4398046511104))=true
  simp only [Bool.and_eq_true,decide_eq_true_eq]
  omega
 ·refine List.all_eq_true.2 fun j hj=>?_
  have:=hg j (List.mem_range.1 hj)
  show (decide (1≤(grpL (pickF g 64) 6).getD j 0)&&decide ((grpL (pickF g 64) 6).getD j 0≤6)&&(Nat.beq j 0||decide ((grpL (pickF g 64) 6).getD (j-1) 0<(grpL (pickF g 64) 6).getD j 0)))=true
  rw [decide_eq_true this.1.1,decide_eq_true (show (grpL (pickF g 64) 6).getD j 0≤6 from this.1.2),Bool.true_and,Bool.true_and]
  rcases this.2 with h | h
  ·rw [h];rfl
  ·rw [decide_eq_true h,Bool.or_true]
 ·show (decide (0≤(madeQ agg n X g top).top)&&decide ((madeQ agg n X g top).top≤100)&&(decide ((madeQ agg n X g top).top≤0)||Nat.blt 0 (grpL (pickF g 64) 6).length))=true
  have e:(madeQ agg n X g top).top=match decide (Int.ofNat (grpL (pickF g 64) 6).length>0) with | true=>pickF top 5 | false=>0:=rfl
  rw [e]
  cases hb:decide (Int.ofNat (grpL (pickF g 64) 6).length>0) with
  | true=>
   have hb:=of_decide_eq_true hb
   have:0<(grpL (pickF g 64) 6).length:=by
    have:((grpL (pickF g 64) 6).length:Int)>0:=hb
    omega
   simp only
   rw [decide_eq_true (show 0≤pickF top 5 by omega),decide_eq_true (show pickF top 5≤100 by omega),blt_true this,Bool.or_true];rfl
  | false=>rfl
 ·unfold aggB
  have ea:(madeQ agg n X g top).a=1+pickF agg 5:=rfl
  have ef:(madeQ agg n X g top).fl=match decide (1+pickF agg 5>1) with | true=>7+pickF (Int.tdiv agg 5) 2 | false=>0:=rfl
  have en:(madeQ agg n X g top).nu=match decide (1+pickF agg 5=5) with | true=>tenN (Int.toNat (pickF (Int.tdiv agg 10) 11)) | false=>[]:=rfl
  have ed:(madeQ agg n X g top).de=match decide (1+pickF agg 5=5) with | true=>tenD (Int.toNat (pickF (Int.tdiv agg 10) 11)) | false=>[]:=rfl
  rw [ea,ef,en,ed]
  generalize pickF agg 5=a at*
  have hfl:(decide (7+pickF (Int.tdiv agg 5) 2=7)||decide (7+pickF (Int.tdiv agg 5) 2=8))=true:=by
   simp only [Bool.or_eq_true,decide_eq_true_eq];omega
  have:a=0∨a=4∨(1≤a∧a≤3):=by omega
  rcases this with rfl | rfl | h
  ·rfl
  ·have e1:decide ((1:Int)+4>1)=true:=rfl
   have e2:decide ((1:Int)+4=5)=true:=rfl
   rw [e1,e2]
   simp only
   rw [hfl,isTen_mk (by omega)]
   simp
  ·have e1:decide (1+a>1)=true:=decide_eq_true (by omega)
   have e2:decide (1+a=5)=false:=decide_eq_false (by omega)
   rw [e1,e2]
   simp only
   rw [hfl,decide_eq_true (show 2≤1+a by omega),decide_eq_true (show 1+a≤4 by omega)]
   simp
theorem made_ints (agg:Int) (n:Nat) (X:Nat→Nat→Int) (g top:Int): intsRows 3 (madeQ agg n X g top).nw (qRow (madeQ agg n X g top).C)=true:=by
 refine List.all_eq_true.2 fun j _=>?_
 have:=condI_facts X j
 show (inR .i64 (condI X j 0)&&(inR .i64 (condI X j 1)&&(inR .i64 (condI X j 2)&&true)))=true
 rw [inR_small (by omega) (by omega),inR_small (by omega) (by omega),inR_small (by omega) (by omega)];rfl
theorem made_grps (agg:Int) (n:Nat) (X:Nat→Nat→Int) (g top:Int): intsRows 1 (madeQ agg n X g top).ng (gRow (madeQ agg n X g top).G)=true:=by
 refine List.all_eq_true.2 fun j hj=>?_
 have:=grpL_facts (pickF g 64) 6 j (List.mem_range.1 hj)
 show (inR .i64 ((grpL (pickF g 64) 6).getD j 0)&&true)=true
 rw [inR_small (by omega) (by omega)];rfl
theorem made_ops (agg:Int) (n:Nat) (X:Nat→Nat→Int) (g top:Int): opsB (madeQ agg n X g top).nw (madeQ agg n X g top).C=true:=by
 unfold opsB
 rw [Bool.and_eq_true]
 refine ⟨decide_eq_true (by show min n 6≤6;omega),List.all_eq_true.2 fun j _=>?_⟩
 have:=condI_facts X j
 show (decide (1≤condI X j 0)&&decide (condI X j 0≤8)&&decide (1≤condI X j 1)&&decide (condI X j 1≤4))=true
 simp only [Bool.and_eq_true,decide_eq_true_eq]
 omega
end Go.Sx
end
section
set_option maxRecDepth 1000000
namespace Go.Sx
open Go Small
theorem few_pieces {L:Nat} {F:Nat→Fact} (h:proveOk L F=true) (nw:Nat) (C:Nat→Nat→Int) {P:List Piece} (hP:P=provedP L F nw C):
  P.length≤2*L-1∧(idleTo (P.map Piece.k) P.length=true∨P.length≤max 1 (factsTo (P.map Piece.k) P.length+2*factsTo (P.map Piece.k) P.length*Small.bits L L)):=by
 have el:(P.map Piece.k).length=P.length:=List.length_map ..
 have a1:idleTo (P.map Piece.k) P.length=idleL (P.map Piece.k):=by rw [←el];exact idleTo_all _
 have a2:factsTo (P.map Piece.k) P.length=factsL (P.map Piece.k):=by rw [←el];exact factsTo_all _
 rw [a1,a2]
 unfold proveOk at h
 unfold provedP at hP
 cases h0:Nat.beq L 0 with
 | true=>
  rw [h0,cond_true] at hP
  subst hP
  exact ⟨Nat.zero_le _,.inr (Nat.zero_le _)⟩
 | false=>
  rw [h0] at h
  simp only [Bool.false_or,Bool.and_eq_true] at h
  obtain ⟨hv,⟨hg,hf⟩,hn⟩:=h
  rw [h0,cond_false] at hP
  have hb:=lt_bits L L (Nat.le_refl _)
  have hgf:=grow_facts 20 L F (Small.bits L L) hg (by omega)
  have hk:=kinds_pieces (exN nw C) (growT 20 L F)
  rw [←hP] at hk
  have ho:=opens_prune (exN nw C) (growT 20 L F)
  have hh:=height_prune (exN nw C) (growT 20 L F)
  rw [hgf.1] at ho
  have:=Small.small (pruneT (exN nw C) (growT 20 L F)) L (Small.bits L L) ho (Nat.le_trans hh hgf.2) (Small.bits L L) (Nat.le_refl _)
  rw [←hk,el] at this
  exact this
theorem catR_at (P:List Piece) (j:Nat): catR 0 (fun _=>[]) P j=pieceAV (P.getD j openP):=by
 unfold catR
 rw [blt_false (by omega),cond_false,Nat.sub_zero]
open Classical in
theorem hsIs_mk {b0 b1 b3 b13:ABlk} (h0:b0=Hs.get 0) (h1:b1=Hs.get 1) (h3:b3=Hs.get 3) (h13:b13=Hs.get 13): hsIs b0 b1 b3 b13=true:=by
 unfold hsIs
 exact decide_eq_true ⟨h0,h1,h3,h13⟩
end Go.Sx
end
section
set_option maxRecDepth 1000000
namespace Go.Sx
open Go Small
theorem law3_ok {n:Nat} {X:Nat→Nat→Int} {m:Nat} {C:Nat→Nat→Int} {agg g top:Int} (hX:intsRows 4 n (xRow X)=true) (hC:intsRows 3 m (qRow C)=true) (ha:inR .i64 agg=true) (hg:inR .i64 g=true) (ht:inR .i64 top=true):
  CallGives PP II 3 [.fslice n 4 (xRow X),.agg [.int .i64 agg,.fslice m 3 (qRow C),.int .i64 g,.int .i64 top]] Hs (.ret (.bool true) (AH.blank 14)):=by
 have hp:=made_prove (rowsX (xRow X)) (i:=min n 40) (by omega)
 have hlen:=madeL_len (rowsX (xRow X)) (min n 40)
 have hv:=law3_vc n X m C agg g top
 have q1:=made_ints agg m (rowsX (qRow C)) g top
 have q2:=made_grps agg m (rowsX (qRow C)) g top
 have q3:=made_ops agg m (rowsX (qRow C)) g top
 have q4:=made_qok agg m (rowsX (qRow C)) g top
 generalize madeL (rowsX (xRow X)) (min n 40)=l at*
 generalize madeQ agg m (rowsX (qRow C)) g top=q at*
 generalize hP:provedP l.length (getL l) q.nw (rowsX (qRow q.C))=P at*
 have few:=few_pieces hp q.nw (rowsX (qRow q.C)) hP.symm
 have hM:P.length≤80:=by omega
 have hp':=hp
 unfold proveOk at hp'
 simp only [Bool.and_eq_true,Bool.or_eq_true] at hp'
 obtain ⟨hvs,hgr⟩:=hp'
 have valid : ∀ j,j<l.length→validF (getL l j)=true:=fun j hj=>by
  unfold validsF at hvs
  simp only [Bool.and_eq_true] at hvs
  have:=List.all_eq_true.1 hvs.1.1 j (List.mem_range.2 hj)
  unfold okAt at this
  simp only [Bool.and_eq_true] at this
  exact this.1
 have hex : ∀ nd,exN q.nw (rowsX (qRow q.C)) nd=exclF q.nw q.C (coverC nd.lo nd.hi):=fun _=>rfl
 have pok : ∀ p,p∈P→PieceOk q p:=fun p hpm=>by
  rw [←hP] at hpm
  unfold provedP at hpm
  cases hz:Nat.beq l.length 0 with
  | true=>rw [hz] at hpm;cases hpm
  | false=>rw [hz] at hpm;exact pieces_ok hex _ p hpm
 have hop:openedP P=((List.range l.length).map (getL l)).filter fun x=>!ownX q x:=by
  rw [←hP]
  unfold provedP
  cases hz:Nat.beq l.length 0 with
  | true=>rw [Nat.eq_of_beq_eq_true hz];rfl
  | false=>
   have hg1:growOk 20 l.length=true:=by
    rcases hgr with h | h
    ·rw [hz] at h;cases h
    ·exact h.1.1
   show openedP (piecesT _ _)=_
   rw [opened_T (fun a b hw h=>by
    rw [hex] at h⊢
    exact ex_mono q4 a b hw h),factsT_grow 20 _ _ hg1]
   rfl
 have hw : ∀ j,j<P.length→LW.p ⟨l.length,getL l,P.length,fun j=>P.getD j openP⟩ j=P.getD j openP:=fun _ _=>rfl
 have hOB:OpenedBy q ⟨l.length,getL l,P.length,fun j=>P.getD j openP⟩ _ _:=opened_by (by rw [opL_all rfl hw];exact hop)
 have loop1:=opened_loop (q:=q) (w:=⟨l.length,getL l,P.length,fun j=>P.getD j openP⟩) (by show P.length≤_;omega) q1 q2 q4 (fun j hj=>by
  have hj:j<P.length:=hj
  show PieceOk q (P.getD j openP)
  rw [List.getD_eq_getElem?_getD,List.getElem?_eq_getElem hj]
  exact pok _ (List.getElem_mem hj))
 have loop2:=facts_loop hOB (by show l.length≤1000000;omega) q1 q2 q4 valid
 generalize opN ⟨l.length,getL l,P.length,fun j=>P.getD j openP⟩ (LW.M ⟨l.length,getL l,P.length,fun j=>P.getD j openP⟩)=nE at*
 generalize opA ⟨l.length,getL l,P.length,fun j=>P.getD j openP⟩ (LW.M ⟨l.length,getL l,P.length,fun j=>P.getD j openP⟩)=FE at*
 obtain ⟨o,h1,h2⟩:=kbody_ok hII [kSane,kMade10,kMade30,kProve] (lamT_ok PP II [(9005,19,s3a q ⟨l.length,getL l,P.length,fun j=>P.getD j openP⟩ (fun i=>opN ⟨l.length,getL l,P.length,fun j=>P.getD j openP⟩ i.toNat) (fun i=>opA ⟨l.length,getL l,P.length,fun j=>P.getD j openP⟩ i.toNat) 0,e3a q ⟨l.length,getL l,P.length,fun j=>P.getD j openP⟩ nE FE),(18004,20,s3b q ⟨l.length,getL l,P.length,fun j=>P.getD j openP⟩ nE FE (fun i=>(keepN q ⟨l.length,getL l,P.length,fun j=>P.getD j openP⟩ i.toNat:Int)) 0,e3b nE (nE:Int))]) 1000 3
  [.fslice n 4 (xRow X),.agg [.int .i64 agg,.fslice m 3 (qRow C),.int .i64 g,.int .i64 top]] Hs (fun a H=>Asks (Nat.ble 14 H.n) (a= .bool true)) (fun _ _=>False) (by
   refine (hv q ⟨l.length,getL l,P.length,fun j=>P.getD j openP⟩ _ _ nE FE _ (nE:Int) (fun a=>a= .bool true)).mpr ?_
   refine Asks.mk' _ _ (hsIs_mk rfl rfl rfl rfl) (Asks.mk' _ _ hX (Asks.mk' _ _ (by rw [hC,ha,hg,ht];rfl) (Asks.mk' _ _ (isFacts_facts _ _) (Asks.mk' _ _ (by rw [q1,q2];rfl) (Asks.mk' _ _ hp (Asks.mk' _ _ q3 (Asks.mk' _ _ ((qok_back q).trans q4) ?_)))))))
   have rows:RowsLe P.length (catR 0 (fun _=>[]) P) (fun j=>pieceAV (P.getD j openP)):=fun j hj σ=>by rw [catR_at];exact piece_le _ σ
   refine ⟨loop1,EqN.mk rfl (EqI.mk rfl (EqN.mk rfl ⟨rows,EqN.mk rfl ⟨qRows _ _,EqN.mk rfl ⟨gRows _ _,EqI.mk rfl (EqI.mk rfl (EqB.mk rfl (EqB.mk rfl (EqI.mk rfl ⟨opsRows,rfl,EqN.mk rfl (EqN.mk rfl ⟨rowsF ⟨l.length,getL l,P.length,fun j=>P.getD j openP⟩,loop2,?_⟩)⟩))))⟩⟩⟩))⟩
   refine EqN.mk rfl ⟨fun k _ σ=>factAV_le σ _,EqN.mk rfl ⟨qRows _ _,EqN.mk rfl ⟨gRows _ _,EqI.mk rfl (EqI.mk rfl (EqB.mk rfl (EqB.mk rfl (EqI.mk rfl ⟨opsRows,rfl,EqI.mk rfl (EqN.mk rfl (EqN.mk rfl ⟨rowsF ⟨l.length,getL l,P.length,fun j=>P.getD j openP⟩,?_⟩))⟩))))⟩⟩⟩
   show AV.bool (decide ((nE:Int)=(nE:Int)))= .bool true
   rw [decide_eq_true rfl])
 cases o with
 | ret a H1=>
  obtain ⟨k0,k1⟩:=Asks.and h1
  have k1:a= .bool true:=k1
  subst k1
  exact h2.le (ResLe.of [] (HeapLe.of rfl rfl rfl rfl k0 (allN_iff.2 fun l _=>trivial)) rfl)
 | pan a H1=>exact h1.elim
end Go.Sx
end
