/- CertifyOpens is proved, part 27. -/
import Derived.Test.YtleifmkjbmhlpaaGreatDoorX26
import Derived.Test.YtleifmkjbmhlpaaGreatDoorX16
import Derived.Test.YtleifmkjbmhlpaaGreatDoorX24
set_option linter.unusedVariables false
set_option linter.unusedSimpArgs false
set_option linter.unusedSectionVars false
section
set_option maxRecDepth 1000000
namespace Go.Sx
open Go
noncomputable def s85 (l:List Int) (x:Int×List UInt8): St:={t:=Tr.ofList [(0,intsAV l),(2,.str []),(3,.bool false),(4,.str x.2),(5,.int .i64 x.1)],nt:=28,H:=AH.blank 12,df:=[]}
noncomputable def e85 (l:List Int) (r:List UInt8): GE:=.one (.x 0 {t:=Tr.ofList [(4,.str r)],nt:=28,H:=AH.blank 12,df:=[]})
theorem num_step (l : List Int) (i : Int) (a r : List UInt8) (Q : Prop) : (kr [kRPut] [] 85 3004 12 (s85 l) (fun _ => e85 l r) (fun x => (x.1 + 1, x.2 ++ putF (atI l x.1.toNat))) Q (i, a)) = (Cond (decide (i < Int.ofNat (List.length l))) (Asks (decide (0 ≤ i) && decide (i < Int.ofNat (List.length l))) (Asks (okI (Option.getD (List.get?Internal l (Int.toNat i)) 0)) (Asks (decide (List.length a + List.length (putF (Option.getD (List.get?Internal l (Int.toNat i)) 0)) ≤ 9223372036854775807)) (Asks (inR .i64 (i + 1)) (false = false ∧ EqI (i + 1) (i + 1) (EqN (List.length l) (List.length l) ((RowsLe (List.length l) (fun i => [AV.int .i64 (Option.getD (List.get?Internal l i) 0)]) fun i => [AV.int .i64 (Option.getD (List.get?Internal l i) 0)]) ∧ EqB (sapp a (putF (Option.getD (List.get?Internal l (Int.toNat i)) 0))) (List.append a (putF (Option.getD (List.get?Internal l (Int.toNat i)) 0))) (EqB
 [] [] Q)))))))) (EqB a r True)) := by kernel_rfl
theorem num_vc (l:List Int) (r:List UInt8) (Q:AV→Prop): (kb [] [(3004,12,s85 l (0,[]),e85 l r)] 85 [intsAV l] Q)=(LoopAt PP II false (loopOf II 85 3004) 12 (s85 l (0,[])) (e85 l r)∧false=false∧EqN (List.length l) (List.length l) ((RowsLe (List.length l) (fun i=>[AV.int .i64 (Option.getD (List.get?Internal l i) 0)]) fun i=>[AV.int .i64 (Option.getD (List.get?Internal l i) 0)])∧EqB [] [] (EqB [] [] (Q (AV.tup [AV.str r,AV.bool true]))))):=by kernel_rfl
def coverAV (lo hi:Nat→Int): List AV:=[.int .i64 (lo 0),.int .i64 (lo 1),.int .i64 (lo 2),.int .i64 (lo 3),.int .i64 (lo 4),.int .i64 (lo 5),.int .i64 (lo 6),.int .i64 (lo 7),.int .i64 (hi 0),.int .i64 (hi 1),.int .i64 (hi 2),.int .i64 (hi 3),.int .i64 (hi 4),.int .i64 (hi 5),.int .i64 (hi 6),.int .i64 (hi 7)]
theorem both_vc (lo hi lo' hi' : Nat → Int) (Q : AV → Prop) : (kb [] [] 89 [.agg (coverAV lo hi), .agg (coverAV lo' hi')] Q) = (Asks (inR .i64 1) (Asks (inR .i64 2) (Asks (inR .i64 3) (Asks (inR .i64 4) (Asks (inR .i64 5) (Asks (inR .i64 6) (Asks (inR .i64 7) (Asks (inR .i64 8) (Q (AV.agg [AV.int .i64 (if lo' 0 < lo 0 then lo' 0 else lo 0), AV.int .i64 (if lo' 1 < lo 1 then lo' 1 else lo 1), AV.int .i64 (if lo' 2 < lo 2 then lo' 2 else lo 2), AV.int .i64 (if lo' 3 < lo 3 then lo' 3 else lo 3), AV.int .i64 (if lo' 4 < lo 4 then lo' 4 else lo 4), AV.int .i64 (if lo' 5 < lo 5 then lo' 5 else lo 5), AV.int .i64 (if lo' 6 < lo 6 then lo' 6 else lo 6), AV.int .i64 (if lo' 7 < lo 7 then lo' 7 else lo 7), AV.int .i64 (if hi' 0 > hi 0 then hi' 0 else hi 0), AV.int .i64 (if hi' 1 > hi 1 then hi' 1 else hi 1), AV.int .i64 (if hi' 2 > hi 2 then hi' 2 else hi 2), AV.int .i64 (if hi' 3 > hi 3 then hi'
 3 else hi 3), AV.int .i64 (if hi' 4 > hi 4 then hi' 4 else hi 4), AV.int .i64 (if hi' 5 > hi 5 then hi' 5 else hi 5), AV.int .i64 (if hi' 6 > hi 6 then hi' 6 else hi 6), AV.int .i64 (if hi' 7 > hi 7 then hi' 7 else hi 7)])))))))))) := by kernel_rfl
theorem of_vc (x:Fact) (Q:AV→Prop): (kb [] [] 15 [.agg (factAV x)] Q)=(Q (AV.agg [AV.int .i64 x.t,AV.int .i64 x.v,AV.int .i64 x.w,AV.int .i64 x.o,AV.int .i64 x.p,AV.int .i64 x.d,AV.int .i64 x.b,AV.int .i64 x.l,AV.int .i64 x.t,AV.int .i64 x.v,AV.int .i64 x.w,AV.int .i64 x.o,AV.int .i64 x.p,AV.int .i64 x.d,AV.int .i64 x.b,AV.int .i64 x.h])):=by kernel_rfl
end Go.Sx
end
section
set_option maxRecDepth 1000000
namespace Go.Sx
open Go
theorem num_loop {l:List Int} (hl:intsB l=true) (h1:l.length≤1000): LoopAt PP II false (loopOf II 85 3004) 12 (s85 l (0,[])) (e85 l (intsF l)):=
 LoopAt.of (ι:=Int×List UInt8) hII [kRPut] (lamT_ok PP II []) 1000 12 (fun x=> ∃ k:Nat,k≤l.length∧x.1=(k:Int)∧x.2=preI l k) (s85 l) (fun _=>e85 l (intsF l)) (fun x=>(l.length-x.1).toNat) (fun x=>(x.1+1,x.2++putF (atI l x.1.toNat))) (0,[]) rfl
  ⟨0,Nat.zero_le _,rfl,rfl⟩ fun x hx=>by
  obtain ⟨i,a⟩:=x
  obtain ⟨k,hk,h2,h3⟩:=hx
  change i=(k:Int) at h2
  change a=preI l k at h3
  have eL:Int.ofNat (List.length l)=(l.length:Int):=rfl
  refine (num_step l i a (intsF l) _).mpr (Cond.mk (fun h=>?_) fun h=>?_)
  ·simp only [decide_eq_true_eq,eL] at h
   have ni:Int.toNat i=k:=by omega
   have hk':k<l.length:=by omega
   have em:Option.getD (List.get?Internal l k) 0=atI l k:=rfl
   have hm:atI l k∈l:=by
    unfold atI
    rw [List.getD_eq_getElem?_getD,List.getElem?_eq_getElem hk']
    exact List.getElem_mem hk'
   have ho:=List.all_eq_true.1 hl _ hm
   have la:a.length≤10*k:=by
    rw [h3]
    unfold preI
    have:=intsF_len (l.take k)
    rw [List.length_take] at this
    omega
   have lp:(putF (atI l k)).length≤10:=by
    have:=intsF_len [atI l k]
    simpa [intsF] using this
   rw [ni,em]
   refine Asks.mk (by rw [decide_eq_true (show (0:Int)≤i by omega),decide_eq_true (show i<Int.ofNat l.length by omega)];rfl) (Asks.mk ho (Asks.mk (decide_eq_true (by omega)) (Asks.mk (inR_small (by omega) (by omega)) ⟨rfl,EqI.mk rfl (EqN.mk rfl ⟨RowsLe.same fun _ _=>atI_le _ _ _,EqB.mk rfl (EqB.mk rfl ⟨⟨k+1,hk',by show i+1=_;omega,?_⟩,by show ((l.length:Int)-(i+1)).toNat<((l.length:Int)-i).toNat;omega,rfl⟩)⟩)⟩)))
   show a++putF (atI l k)=_
   rw [h3,preI_succ hk']
  ·simp only [decide_eq_false_iff_not,eL] at h
   have:k=l.length:=by omega
   have:a=intsF l:=by rw [h3,this];unfold preI;rw [List.take_length]
   exact EqB.mk this trivial
theorem num_ok {l:List Int} (hl:intsB l=true) (h1:l.length≤1000): CallGives PP II 85 [intsAV l] (AH.blank 12) (.ret (.tup [.str (intsF l),.bool true]) (AH.blank 12)):=by
 refine of_kb (ks:=[]) (T:=[(3004,12,s85 l (0,[]),e85 l (intsF l))]) (fun σ=>⟨rfl,rfl,trivial⟩) ?_
 rw [num_vc]
 exact ⟨num_loop hl h1,rfl,EqN.mk rfl ⟨RowsLe.same fun _ _=>atI_le _ _ _,EqB.mk rfl (EqB.mk rfl rfl)⟩⟩
noncomputable def kRNum:Known PP II:=Known.pure 85
 (fun X args kn=>match args with
  | [.fslice n 1 f]=>X.assert (isInts n f&&intsB (intsOf n f)&&Nat.ble n 1000) (kn (.tup [.str (intsF (intsOf n f)),.bool true]))
  | _=>X.fail)
 fun X sem hX args kn h=>by
  split at h
  ·rename_i n f
   obtain ⟨h1,h2⟩:=hX.assert _ _ h
   simp only [Bool.and_eq_true] at h1
   obtain ⟨⟨a1,a2⟩,a3⟩:=h1
   have hl:(intsOf n f).length=n:=by simp [intsOf]
   exact ⟨_,h2,fun _=>rfl,fun _=>rfl,(num_ok a2 (by have:=Nat.le_of_ble_eq_true a3;omega)).argsLe ⟨isInts_ok a1,trivial⟩⟩
  ·exact absurd h hX.fail
theorem coverAV_le (σ:Nat→Nat) (lo hi:Nat→Int): AVs.le σ (coverAV lo hi) (coverAV lo hi):=
 ⟨⟨rfl,rfl⟩,⟨rfl,rfl⟩,⟨rfl,rfl⟩,⟨rfl,rfl⟩,⟨rfl,rfl⟩,⟨rfl,rfl⟩,⟨rfl,rfl⟩,⟨rfl,rfl⟩,⟨rfl,rfl⟩,⟨rfl,rfl⟩,⟨rfl,rfl⟩,⟨rfl,rfl⟩,⟨rfl,rfl⟩,⟨rfl,rfl⟩,⟨rfl,rfl⟩,⟨rfl,rfl⟩,trivial⟩
theorem both_ok (lo hi lo' hi':Nat→Int): CallGives PP II 89 [.agg (coverAV lo hi),.agg (coverAV lo' hi')] (AH.blank 12) (.ret (.agg (coverAV (fun j=>minI (lo j) (lo' j)) fun j=>maxI (hi j) (hi' j))) (AH.blank 12)):=by
 refine of_kb (ks:=[]) (T:=[]) (fun σ=>coverAV_le σ _ _) ?_
 rw [both_vc]
 exact Asks.mk rfl (Asks.mk rfl (Asks.mk rfl (Asks.mk rfl (Asks.mk rfl (Asks.mk rfl (Asks.mk rfl (Asks.mk rfl rfl)))))))
def isCover (cs:List AV): Bool:=match cs with
 | [.int .i64 _,.int .i64 _,.int .i64 _,.int .i64 _,.int .i64 _,.int .i64 _,.int .i64 _,.int .i64 _,.int .i64 _,.int .i64 _,.int .i64 _,.int .i64 _,.int .i64 _,.int .i64 _,.int .i64 _,.int .i64 _]=>true
 | _=>false
def loC (cs:List AV) (j:Nat): Int:=pickI cs j
def hiC (cs:List AV) (j:Nat): Int:=pickI cs (8+j)
theorem isCover_ok {cs:List AV} (h:isCover cs=true): cs=coverAV (loC cs) (hiC cs):=by
 unfold isCover at h
 split at h
 ·rfl
 ·cases h
noncomputable def kRBoth:Known PP II:=Known.pure 89
 (fun X args kn=>match args with
  | [.agg a,.agg b]=>X.assert (isCover a&&isCover b) (kn (.agg (coverAV (fun j=>minI (loC a j) (loC b j)) fun j=>maxI (hiC a j) (hiC b j))))
  | _=>X.fail)
 fun X sem hX args kn h=>by
  split at h
  ·rename_i a b
   obtain ⟨h1,h2⟩:=hX.assert _ _ h
   simp only [Bool.and_eq_true] at h1
   refine ⟨_,h2,fun _=>rfl,fun _=>?_,?_⟩
   ·rw [isCover_ok h1.1,isCover_ok h1.2];rfl
   ·have:=both_ok (loC a) (hiC a) (loC b) (hiC b)
    rw [←isCover_ok h1.1,←isCover_ok h1.2] at this
    exact this
  ·exact absurd h hX.fail
theorem of_ok (x:Fact): CallGives PP II 15 [.agg (factAV x)] (AH.blank 12) (.ret (.agg (coverAV (loI x) (hiI x))) (AH.blank 12)):=by
 refine of_kb (ks:=[]) (T:=[]) (fun σ=>coverAV_le σ _ _) ?_
 rw [of_vc]
 rfl
noncomputable def kROf:Known PP II:=Known.pure 15
 (fun X args kn=>match args with
  | [.agg cs]=>match toFact cs with
   | some x=>kn (.agg (coverAV (loI x) (hiI x)))
   | none=>X.fail
  | _=>X.fail)
 fun X sem hX args kn h=>by
  split at h
  ·split at h
   ·rename_i cs x hx
    obtain rfl:=toFact_ok hx
    exact ⟨_,h,fun _=>rfl,fun _=>rfl,of_ok x⟩
   ·exact absurd h hX.fail
  ·exact absurd h hX.fail
end Go.Sx
end
section
set_option maxRecDepth 1000000
namespace Go.Sx
open Go
theorem exc_vc (f o N A B:Int) (Q:AV→Prop): (kb [] [] 36 [.agg [.int .i64 f,.int .i64 o,.int .i64 N],.int .i64 A,.int .i64 B] Q)=(Cond (decide (o=1)) (Cond (decide (N<A)) (Q (AV.bool true)) (Q (AV.bool (decide (N>B))))) (Cond (decide (o=2)) (Cond (decide (A>B)) (Q (AV.bool true)) (Cond (decide (A=N)) (Q (AV.bool (decide (B=N)))) (Q (AV.bool false)))) (Cond (decide (o=3)) (Cond (decide (A>B)) (Q (AV.bool true)) (Q (AV.bool (decide (A≥N))))) (Cond (decide (A>B)) (Q (AV.bool true)) (Q (AV.bool (decide (B<N)))))))):=by kernel_rfl
theorem val_vc (x:Fact) (f d:Int) (Q:AV→Prop): (kb [] [] 39 [.agg (factAV x),.int .i64 f,.int .i64 d] Q)=(Cond (decide (f=1)) (Q (AV.int .i64 x.t)) (Cond (decide (f=2)) (Q (AV.int .i64 x.v)) (Cond (decide (f=3)) (Q (AV.int .i64 x.w)) (Cond (decide (f=4)) (Q (AV.int .i64 x.o)) (Cond (decide (f=5)) (Q (AV.int .i64 x.p)) (Cond (decide (f=6)) (Q (AV.int .i64 x.d)) (Cond (decide (f=7)) (Q (AV.int .i64 x.b)) (Cond (decide (f=8)) (Q (AV.int .i64 d)) (Q (AV.int .i64 0)))))))))):=by kernel_rfl
end Go.Sx
end
section
set_option maxRecDepth 1000000
namespace Go.Sx
open Go
theorem exc_ok {f o N A B:Int} (h1:1≤o) (h2:o≤4): CallGives PP II 36 [.agg [.int .i64 f,.int .i64 o,.int .i64 N],.int .i64 A,.int .i64 B] (AH.blank 12) (.ret (.bool (!rowH A B o N)) (AH.blank 12)):=by
 refine of_kb (ks:=[]) (T:=[]) (fun σ=>rfl) ?_
 rw [exc_vc]
 have yes:rowH A B o N=true→(AV.bool false=AV.bool (!rowH A B o N)):=fun h=>by rw [h];rfl
 have no:rowH A B o N=false→(AV.bool true=AV.bool (!rowH A B o N)):=fun h=>by rw [h];rfl
 unfold rowH at*
 have both : ∀ (p:Prop) [Decidable p],(p↔ ¬ ((o=1∧A≤N∧N≤B)∨(o=2∧A≤B∧(A≠N∨B≠N))∨(o=3∧A≤B∧A<N)∨(o=4∧A≤B∧N≤B)))→(AV.bool (decide p)=AV.bool (!decide ((o=1∧A≤N∧N≤B)∨(o=2∧A≤B∧(A≠N∨B≠N))∨(o=3∧A≤B∧A<N)∨(o=4∧A≤B∧N≤B)))):=fun p _ h=>by
  by_cases hp:p
  ·rw [decide_eq_true hp,decide_eq_false (h.1 hp)];rfl
  ·rw [decide_eq_false hp,decide_eq_true (Classical.not_not.1 fun e=>hp (h.2 e))];rfl
 repeat' (first
  | with_reducible refine Cond.mkP (fun _=>?_) fun _=>?_
  | exact no (decide_eq_false (by omega))
  | exact yes (decide_eq_true (by omega))
  | exact both _ (by omega))
noncomputable def kExc:Known PP II:=Known.pure 36
 (fun X args kn=>match args with
  | [.agg [.int .i64 _,.int .i64 o,.int .i64 N],.int .i64 A,.int .i64 B]=>X.assert (decide (1≤o)&&decide (o≤4)) (kn (.bool (!rowH A B o N)))
  | _=>X.fail)
 fun X sem hX args kn h=>by
  split at h
  ·obtain ⟨h1,h2⟩:=hX.assert _ _ h
   simp only [Bool.and_eq_true,decide_eq_true_eq] at h1
   exact ⟨_,h2,fun _=>rfl,fun _=>rfl,exc_ok h1.1 h1.2⟩
  ·exact absurd h hX.fail
def valF (x:Fact) (f d:Int): Int:=if f=1 then x.t else if f=2 then x.v else if f=3 then x.w else if f=4 then x.o else if f=5 then x.p else if f=6 then x.d else if f=7 then x.b else if f=8 then d else 0
theorem val_ok (x:Fact) (f d:Int): CallGives PP II 39 [.agg (factAV x),.int .i64 f,.int .i64 d] (AH.blank 12) (.ret (.int .i64 (valF x f d)) (AH.blank 12)):=by
 refine of_kb (ks:=[]) (T:=[]) (fun σ=>⟨rfl,rfl⟩) ?_
 rw [val_vc]
 unfold valF
 refine Cond.mkP (fun h=>by rw [if_pos h]) fun h1=>?_
 rw [if_neg h1]
 refine Cond.mkP (fun h=>by rw [if_pos h]) fun h1=>?_
 rw [if_neg h1]
 refine Cond.mkP (fun h=>by rw [if_pos h]) fun h1=>?_
 rw [if_neg h1]
 refine Cond.mkP (fun h=>by rw [if_pos h]) fun h1=>?_
 rw [if_neg h1]
 refine Cond.mkP (fun h=>by rw [if_pos h]) fun h1=>?_
 rw [if_neg h1]
 refine Cond.mkP (fun h=>by rw [if_pos h]) fun h1=>?_
 rw [if_neg h1]
 refine Cond.mkP (fun h=>by rw [if_pos h]) fun h1=>?_
 rw [if_neg h1]
 refine Cond.mkP (fun h=>by rw [if_pos h]) fun h1=>?_
 rw [if_neg h1]
noncomputable def kVal39:Known PP II:=Known.pure 39
 (fun X args kn=>match args with
  | [.agg cs,.int .i64 f,.int .i64 d]=>match toFact cs with
   | some x=>kn (.int .i64 (valF x f d))
   | none=>X.fail
  | _=>X.fail)
 fun X sem hX args kn h=>by
  split at h
  ·rename_i cs f d
   split at h
   ·rename_i x hx
    have e:=toFact_ok hx
    subst e
    exact ⟨_,h,fun _=>rfl,fun _=>rfl,val_ok x f d⟩
   ·exact absurd h hX.fail
  ·exact absurd h hX.fail
noncomputable def s13 (q:Query) (lo hi:Nat→Int) (i:Int): St:={t:=Tr.ofList [(2,.ptr 12 0 0 0),(3,.ptr 13 0 0 0),(5,.int .i64 i)],nt:=35,H:={n:=14,t:=Tr.ofList [(12,.cells (queryAV q) (.ty 34)),(13,.cells (coverC lo hi) (.ty 46))]},df:=[]}
noncomputable def e13 (b:Bool): GE:=.cond b (.one (.r {t:=Tr.ofList [(4,.bool true)],nt:=35,H:=AH.blank 14,df:=[]})) (.one (.x 0 {t:=.e,nt:=35,H:=AH.blank 14,df:=[]}))
theorem exq_step (q : Query) (lo hi : Nat → Int) (b : Bool) (i : Int) (Q : Prop) : (kr [kExc] [] 13 2005 14 (s13 q lo hi) (fun _ => e13 b) (fun i => i + 1) Q i) = (Cond (decide (i < Int.ofNat q.nw)) (Asks (decide (0 ≤ i) && decide (i < Int.ofNat q.nw)) (Asks (inR .i64 (q.C (Int.toNat i) 0 - 1)) (Asks (decide (0 ≤ i) && decide (i < Int.ofNat q.nw)) (Asks (decide (0 ≤ q.C (Int.toNat i) 0 - 1) && decide (q.C (Int.toNat i) 0 - 1 < 8)) (Asks (decide (Int.toNat (q.C (Int.toNat i) 0 - 1) * 1 + 0 < 16)) (Asks (decide (0 ≤ q.C (Int.toNat i) 0 - 1) && decide (q.C (Int.toNat i) 0 - 1 < 8)) (Asks (decide (Int.toNat (q.C (Int.toNat i) 0 - 1) * 1 + 8 < 16)) (Asks (decide (1 ≤ q.C (Int.toNat i) 1) && decide (q.C (Int.toNat i) 1 ≤ 4)) (Cond (!rowH (int64At (coverC lo hi) (Int.toNat (q.C (Int.toNat i) 0 - 1) * 1 + 0)) (int64At (coverC lo hi) (Int.toNat (q.C (Int.toNat i) 0 - 1) * 1 + 8)) (q.C (Int.toNat
 i) 1) (q.C (Int.toNat i) 2)) (Cond b (true = true ∧ True) False) (Asks (inR .i64 (i + 1)) (EqI (lo 0) (lo 0) (EqI (lo 1) (lo 1) (EqI (lo 2) (lo 2) (EqI (lo 3) (lo 3) (EqI (lo 4) (lo 4) (EqI (lo 5) (lo 5) (EqI (lo 6) (lo 6) (EqI (lo 7) (lo 7) (EqI (hi 0) (hi 0) (EqI (hi 1) (hi 1) (EqI (hi 2) (hi 2) (EqI (hi 3) (hi 3) (EqI (hi 4) (hi 4) (EqI (hi 5) (hi 5) (EqI (hi 6) (hi 6) (EqI (hi 7) (hi 7) (EqN q.nw q.nw (RowsLe q.nw (qRow q.C) (qRow q.C) ∧ EqN q.ng q.ng (RowsLe q.ng (gRow q.G) (gRow q.G) ∧ EqI q.a q.a (EqI q.fl q.fl (EqB q.nu q.nu (EqB q.de q.de (EqI q.top q.top (EqI (i + 1) (i + 1) Q)))))))))))))))))))))))))))))))))) (Cond b False True)) := by kernel_rfl
theorem exq_vc (q : Query) (lo hi : Nat → Int) (b : Bool) (Q : AV → Prop) : (kb [] [(2005, 14, s13 q lo hi 0, e13 b)] 13 [.agg (queryAV q), .agg (coverC lo hi)] Q) = (LoopAt PP II false (loopOf II 13 2005) 14 { t := .n (.n (.n .e (some (AV.ptr 13 0 0 0)) .e) none (.n .e (some (AV.int .i64 0)) .e)) none (.n .e (some (AV.ptr 12 0 0 0)) .e), nt := 35, H := { n := 14, t := .n (.n .e none (.n .e none (.n .e (some (ABlk.cells (coverC lo hi) (Access.ty 46))) .e))) none (.n (.n .e none (.n .e (some (ABlk.cells (queryAV q) (Access.ty 34))) .e)) none .e) }, df := [] } (GE.cond b (GE.one (AExit.r { t := .n .e none (.n (.n .e (some (AV.bool true)) .e) none .e), nt := 35, H := { n := 14, t := .e }, df := [] })) (GE.one (AExit.x 0 { t := .e, nt := 35, H := { n := 14, t := .e }, df := [] }))) ∧ EqI (lo 0) (lo 0) (EqI (lo 1) (lo 1) (EqI (lo 2) (lo 2) (EqI (lo 3) (lo 3) (EqI (lo 4) (lo 4) (EqI (lo 5) (lo
 5) (EqI (lo 6) (lo 6) (EqI (lo 7) (lo 7) (EqI (hi 0) (hi 0) (EqI (hi 1) (hi 1) (EqI (hi 2) (hi 2) (EqI (hi 3) (hi 3) (EqI (hi 4) (hi 4) (EqI (hi 5) (hi 5) (EqI (hi 6) (hi 6) (EqI (hi 7) (hi 7) (EqN q.nw q.nw (RowsLe q.nw (qRow q.C) (qRow q.C) ∧ EqN q.ng q.ng (RowsLe q.ng (gRow q.G) (gRow q.G) ∧ EqI q.a q.a (EqI q.fl q.fl (EqB q.nu q.nu (EqB q.de q.de (EqI q.top q.top (Cond b (Q (AV.bool true)) (Q (AV.bool false)))))))))))))))))))))))))) := by kernel_rfl
end Go.Sx
end
