/- The proof of a statement of the seat, part 42. -/
import Derived.Test.YtoijalagmmgkbaaGreatDoorX41
set_option linter.all false
set_option linter.defProp false
section
set_option maxRecDepth 100000
namespace Go.Sx
open Go Go.Sort Go.Shelf Go.Proofs
end Go.Sx
end
section
set_option maxRecDepth 100000
namespace Go.Sx
open Go Go.Sort Go.Shelf Go.Proofs
theorem Ou(x:ay)(f d e:Int)(h:f≠8):gJ x f d=gJ x f e:=by
 unfold gJ
 simp only[h,if_false]
theorem holds_of{q:Query}{x:ay}{d:Int}(h:∀k,k<q.nw->gG q x d k=true):dV q x d=true:=List.all_eq_true.2 λk a=>h k (List.mem_range.1 a)
theorem uz{q:Query}{x:ay}{d e:Int}(j:eU q=true)(h:qS q x d=true)(l:xG x e=true)(a:qS q x e=false)(m:d=e+1∨e=d+1):∃k,k<q.nw/\q.C k 2-1<=d/\d<=q.C k 2+1:=by
 obtain⟨_,hn⟩:=fQ j
 unfold qS at h a
 rw[l,Bool.true_and]at a
 rw[bf]at h
 have a:∃k,k<q.nw/\gG q x e k=false:=Classical.byContradiction λc=>by
  rw[holds_of λk g=>by
   cases b:gG q x e k with
   |true=>rfl
   |false=>exact absurd ⟨k,g,b⟩ c]at a
  cases a
 obtain⟨k,g,b⟩:=a
 have f:gG q x d k=true:=List.all_eq_true.1 h.2 k (List.mem_range.2 g)
 refine⟨k,g,?_⟩
 unfold gG at b f
 by_cases i:q.C k 0=8
 ·rw[show gJ x (q.C k 0) e=e by rw[i];rfl]at b
  rw[show gJ x (q.C k 0) d=d by rw[i];rfl]at f
  unfold Nn at b f
  rw[iK]at b
  rw[bn]at f
  omega
 ·rw[Ou x _ e d i,f]at b
  cases b
end Go.Sx
end
section
set_option maxRecDepth 1000000
namespace Go.Sx
open Go
noncomputable def hL:AH:={n:=27,t:=Tr.ofList [(6,.cells dz (.ex 20))]}
end Go.Sx
end
section
set_option maxRecDepth 1000000
namespace Go.Sx
open Go
end Go.Sx
end
section
set_option maxRecDepth 100000
namespace Go.Sx
open Go Go.Sort Go.Shelf Go.Proofs
end Go.Sx
end
section
set_option maxRecDepth 1000000
namespace Go.Sx
open Go
theorem uu(X:Nat->Nat->Int)(j:Nat):(1<=cW X j 0/\cW X j 0<=8)/\(1<=cW X j 1/\cW X j 1<=4)/\(-1<=cW X j 2/\cW X j 2<=38):=by
 have a:=cj (c:=X j 0) (n:=11) O
 have b:=cj (c:=X j 1) (n:=4) O
 have d:=cj (c:=X j 2) (n:=40) O
 refine⟨?_,?_,?_⟩
 ·show 1<=ma (X j 0)/\ma (X j 0)<=8
  unfold ma
  split
  ·omega
  ·rename_i h;have:=of_decide_eq_false h;omega
 ·show 1<=1+av (X j 1) 4/\1+av (X j 1) 4<=4;omega
 ·show -1<=av (X j 2) 40-1/\av (X j 2) 40-1<=38;omega
theorem xA{l m:List Int}{i:Nat}{d:Int}(h:i<l.length):(l++m).getD i d=l.getD i d:=by
 rw[List.getD_eq_getElem?_getD,List.getD_eq_getElem?_getD,List.getElem?_append_left h]
theorem qQ(p:Int):∀(k i:Nat),i<(bM p k).length->(1<=(bM p k).getD i 0/\(bM p k).getD i 0<=(k:Int))/\(i=0∨(bM p k).getD (i-1) 0<(bM p k).getD i 0)
 |0,i,h=>by simp[bM]at h
 |k+1,i,h=>by
  have b:=qQ p k
  unfold bM at h⊢
  split at h
  ·rename_i c
   simp only[List.length_append,List.length_singleton]at h
   by_cases e:i<(bM p k).length
   ·have:=b i e
    rw[xA e]
    refine⟨O,?_⟩
    rcases this.2 with a|a
    ·exact .inl a
    ·right;rw[xA O];exact a
   ·have d:i=(bM p k).length:=by omega
    have el:(bM p k++[(k:Int)+1]).getD i 0=(k:Int)+1:=by
     rw[d,List.getD_eq_getElem?_getD,List.getElem?_append_right (dw _),Nat.sub_self];rfl
    rw[el]
    refine⟨O,?_⟩
    by_cases a:i=0
    ·exact .inl a
    ·right
     have:=b (i-1) O
     rw[xA O]
     omega
  ·rename_i c
   have:=b i h
   refine⟨O,this.2⟩
theorem OO{k:Nat}(h:k<11):oa (wy k) (wz k)=true:=List.any_eq_true.2 ⟨k,List.mem_range.2 h,zA⟩
theorem OP(agg:Int)(n:Nat)(X:Nat->Nat->Int)(g top:Int):eU (cJ agg n X g top)=true:=by
 have k:=qQ (av g 64) 6
 have hl:=rH (av g 64) 6
 have s:=cj (c:=agg) (n:=5) O
 have t:=cj (c:=Int.tdiv agg 5) (n:=2) O
 have l:=cj (c:=Int.tdiv agg 10) (n:=11) O
 have ht:=cj (c:=top) (n:=5) O
 unfold eU
 simp only[bf,bn]
 refine⟨⟨⟨⟨⟨?_,hl⟩,?_⟩,?_⟩,?_⟩,?_⟩
 ·show min n 6<=6;omega
 ·refine List.all_eq_true.2 λj _=>?_
  have:=uu X j
  show(decide (1<=cW X j 0)&&decide (cW X j 0<=8)&&decide (1<=cW X j 1)&&decide (cW X j 1<=4)&&decide (-1<=cW X j 2)&&decide (cW X j 2<=4398046511104))=true
  simp only[bf,bn]
  omega
 ·refine List.all_eq_true.2 λj m=>?_
  have:=k j (List.mem_range.1 m)
  show(decide (1<=(bM (av g 64) 6).getD j 0)&&decide ((bM (av g 64) 6).getD j 0<=6)&&(Nat.beq j 0||decide ((bM (av g 64) 6).getD (j-1) 0<(bM (av g 64) 6).getD j 0)))=true
  rw[bW this.1.1,bW (show(bM (av g 64) 6).getD j 0<=6 from this.1.2),Bool.true_and,Bool.true_and]
  rcases this.2 with h|h
  ·rw[h];rfl
  ·rw[bW h,Bool.or_true]
 ·show(decide (0<=(cJ agg n X g top).top)&&decide ((cJ agg n X g top).top<=100)&&(decide ((cJ agg n X g top).top<=0)||Nat.blt 0 (bM (av g 64) 6).length))=true
  have e:(cJ agg n X g top).top=match decide (Int.ofNat (bM (av g 64) 6).length>0)with|true=>av top 5|false=>0:=rfl
  rw[e]
  cases d:decide (Int.ofNat (bM (av g 64) 6).length>0)with
  |true=>
   have d:=pT d
   have:0<(bM (av g 64) 6).length:=by
    have:((bM (av g 64) 6).length:Int)>0:=d
    omega
   simp only
   rw[bW (O:0<=av top 5),bW (O:av top 5<=100),eV this,Bool.or_true];rfl
  |false=>rfl
 ·unfold EV
  have o:(cJ agg n X g top).a=1+av agg 5:=rfl
  have p:(cJ agg n X g top).fl=match decide (1+av agg 5>1)with|true=>7+av (Int.tdiv agg 5) 2|false=>0:=rfl
  have q:(cJ agg n X g top).nu=match decide (1+av agg 5=5)with|true=>wy (Int.toNat (av (Int.tdiv agg 10) 11))|false=>[]:=rfl
  have r:(cJ agg n X g top).de=match decide (1+av agg 5=5)with|true=>wz (Int.toNat (av (Int.tdiv agg 10) 11))|false=>[]:=rfl
  rw[o,p,q,r]
  generalize av agg 5=a at*
  have b:(decide (7+av (Int.tdiv agg 5) 2=7)||decide (7+av (Int.tdiv agg 5) 2=8))=true:=by
   simp only[Bool.or_eq_true,bn];omega
  have:a=0∨a=4∨(1<=a/\a<=3):=O
  rcases this with rfl|rfl|h
  ·rfl
  ·have f:decide ((1:Int)+4>1)=true:=rfl
   have i:decide ((1:Int)+4=5)=true:=rfl
   rw[f,i]
   simp only
   rw[b,OO O]
   simp
  ·have f:decide (1+a>1)=true:=bW O
   have i:decide (1+a=5)=false:=nZ O
   rw[f,i]
   simp only
   rw[b,bW (O:2<=1+a),bW (O:1+a<=4)]
   simp
theorem J8(agg:Int)(n:Nat)(X:Nat->Nat->Int)(g top:Int):aI 3 (cJ agg n X g top).nw (au (cJ agg n X g top).C)=true:=by
 refine List.all_eq_true.2 λj _=>?_
 have:=uu X j
 show(aN .i64 (cW X j 0)&&(aN .i64 (cW X j 1)&&(aN .i64 (cW X j 2)&&true)))=true
 rw[aq O O,aq O O,aq O O];rfl
theorem J9(agg:Int)(n:Nat)(X:Nat->Nat->Int)(g top:Int):aI 1 (cJ agg n X g top).ng (aR (cJ agg n X g top).G)=true:=by
 refine List.all_eq_true.2 λj a=>?_
 have:=qQ (av g 64) 6 j (List.mem_range.1 a)
 show(aN .i64 ((bM (av g 64) 6).getD j 0)&&true)=true
 rw[aq O O];rfl
end Go.Sx
end
section
set_option maxRecDepth 1000000
namespace Go.Sx
open Go
theorem RM(q:Query)(n:Nat)(F:Nat->ay):r8 q n F<=n:=by
 have h:=(lG q F n).len
 unfold r8 ju
 split
 ·exact h
 ·exact Nat.le_trans (jV _ _) h
end Go.Sx
end
