/- CertifyOpens is proved, part 13. -/
import Derived.Test.YtleifmkjbmhlpaaGreatDoorX10
import Derived.Test.YtleifmkjbmhlpaaGreatDoorX12
import Derived.Laws.Externs
set_option linter.unusedVariables false
set_option linter.unusedSimpArgs false
set_option linter.unusedSectionVars false
section
set_option maxRecDepth 1000000
namespace Go.Sx
open Go
noncomputable abbrev PP:Program:=Go.Proofs.Tryz.prog
noncomputable def II:Info:=Go.Proofs.Tryz.sxTabs.info false
theorem hII:II.Ok PP:=Go.Proofs.Tryz.sxTabsOk.ok false
noncomputable abbrev kb (ks:List (Known PP II)) (T:LTab) (f:FuncId) (args:List AV) (Q:AV→Prop): Prop :=
 kbody ks (lamT PP II T) 1000 f args (AH.blank 12) (fk 12 Q) (fun _ _=>False)
noncomputable abbrev kr {ι:Type} (ks:List (Known PP II)) (T:LTab) (f key n0:Nat) (S:ι→St) (E:ι→GE) (nx:ι→ι) (Q:Prop) (i:ι): Prop :=
 krun ks (lamT PP II T) 1000 false (.code (loopOf II f key)) (S i) (nextK n0 S E nx Q i)
theorem of_kb {ks:List (Known PP II)} {T:LTab} {f:FuncId} {args:List AV} {a':AV} (hle : ∀ σ,AV.le σ a' a') (h:kb ks T f args (fun a=>a=a')): CallGives PP II f args (AH.blank 12) (.ret a' (AH.blank 12)):=
 CallGives.of_fk hII ks (lamT_ok PP II T) 1000 hle h
theorem Asks.iff {b:Bool} {x:Prop}: Asks b x↔b=true∧x:=by cases b with | true=>exact ⟨fun h=>⟨rfl,h⟩,fun h=>h.2⟩ | false=>exact ⟨fun h=>h.elim,fun h=>by cases h.1⟩
theorem inR_small {n:Int} (h1 : -9223372036854775808≤n) (h2:n≤9223372036854775807): inR .i64 n=true:=by
 show (decide _&&decide _)=true
 simp only [Bool.and_eq_true,decide_eq_true_eq]
 exact ⟨h1,h2⟩
theorem inR_iff {n:Int}: inR .i64 n=true↔ -9223372036854775808≤n∧n≤9223372036854775807:=by
 show (decide _&&decide _)=true↔_
 simp only [Bool.and_eq_true,decide_eq_true_eq]
 exact Iff.rfl
theorem within_vc (n lo hi:Int) (Q:AV→Prop): (kb [] [] 76 [.int .i64 n,.int .i64 lo,.int .i64 hi] Q)=
 (Cond (decide (n≥lo)) (Q (AV.bool (decide (n≤hi)))) (Q (AV.bool false))):=by kernel_rfl
theorem within_ok (n lo hi:Int): CallGives PP II 76 [.int .i64 n,.int .i64 lo,.int .i64 hi] (AH.blank 12) (.ret (.bool (decide (n≥lo)&&decide (n≤hi))) (AH.blank 12)):=by
 refine of_kb (ks:=[]) (T:=[]) (fun _=>rfl) ((within_vc n lo hi _).mpr ?_)
 refine Cond.mk (fun h=>?_) (fun h=>?_)
 ·rw [h,Bool.true_and]
 ·rw [h,Bool.false_and]
noncomputable def kWithin:Known PP II:=Known.pure 76
 (fun X args kn=>match args with
  | [.int .i64 n,.int .i64 lo,.int .i64 hi]=>kn (.bool (decide (n≥lo)&&decide (n≤hi)))
  | _=>X.fail)
 fun X sem hX args kn h=>by
  split at h
  ·exact ⟨_,h,fun _=>rfl,fun _=>rfl,within_ok _ _ _⟩
  ·exact absurd h hX.fail
def halfN (n:Nat): Nat:=match Nat.ble n 1 with | true=>1 | false=>2^Nat.log2 (n-1)
noncomputable def s73 (n k:Int): St:={t:=Tr.ofList [(0,.int .i64 n),(3,.int .i64 k)],nt:=11,H:=AH.blank 12,df:=[]}
noncomputable def e73 (n:Int) (m:Nat): GE:=.one (.x 0 (s73 n (halfN m)))
theorem half_step (n k:Int) (m:Nat) (Q:Prop): (kr [] [] 73 2004 12 (s73 n) (fun _=>e73 n m) (fun k=>2*k) Q k)=
 (Asks (inR IntKind.i64 ((2:Int)*k))
 (Cond (decide ((2:Int)*k<n))
  (Asks (inR IntKind.i64 (k*(2:Int))) (EqI (k*(2:Int)) ((2:Int)*k) (EqI n n Q)))
  (EqI k (Int.ofNat (halfN m)) (EqI n n True)))):=by kernel_rfl
theorem half_vc (n:Int) (m:Nat) (Q:AV→Prop): (kb [] [(2004,12,s73 n 1,e73 n m)] 73 [.int .i64 n] Q)=
 (LoopAt PP II false (loopOf II (73:Nat) (2004:Nat)) (12:Nat) (s73 n (1:Int)) (e73 n m)∧
 EqI n n (Q (AV.int IntKind.i64 (Int.ofNat (halfN m))))):=by kernel_rfl
theorem halfN_eq {n a:Nat} (h1:2^a=1∨2^a<n) (h2:n≤2*2^a): 2^a=halfN n:=by
 unfold halfN
 have hp:0<2^a:=Nat.two_pow_pos a
 cases hb:Nat.ble n 1 with
 | true=>
  have:=Nat.le_of_ble_eq_true hb
  show _=1
  omega
 | false=>
  have hn : ¬ n≤1:=fun e=>by rw [Nat.ble_eq_true_of_le e] at hb;cases hb
  show _=2^Nat.log2 (n-1)
  congr 1
  refine (((Nat.log2_eq_iff (by omega)).2 ⟨by omega,?_⟩)).symm
  rw [Nat.pow_succ];omega
theorem half_loop {n:Nat} (hn:n≤1000000): LoopAt PP II false (loopOf II 73 2004) 12 (s73 n 1) (e73 n n):=
 LoopAt.of (ι:=Int) hII [] (lamT_ok PP II []) 1000 12 (fun k=> ∃ a,k=((2^a:Nat): Int)∧(2^a=1∨2^a<n)) (s73 n) (fun _=>e73 n n) (fun k=>(2*n-k).toNat) (fun k=>2*k) 1 rfl ⟨0,rfl,.inl rfl⟩ fun k hk=>by
  obtain ⟨a,rfl,ha⟩:=hk
  have hp:0<2^a:=Nat.two_pow_pos a
  refine (half_step n _ n _).mpr (Asks.mk (inR_small (by omega) (by omega)) (Cond.mk (fun h=>Asks.mk (inR_small (by omega) (by omega)) (EqI.mk (by omega) (EqI.mk rfl ?_))) fun h=>EqI.mk ?_ (EqI.mk rfl trivial)))
  ·simp only [decide_eq_true_eq] at h
   exact ⟨⟨a+1,by rw [Nat.pow_succ];omega,.inr (by rw [Nat.pow_succ];omega)⟩,by omega,rfl⟩
  ·simp only [decide_eq_false_iff_not] at h
   exact congrArg Int.ofNat (halfN_eq ha (by omega))
theorem half_ok {n:Nat} (hn:n≤1000000): CallGives PP II 73 [.int .i64 n] (AH.blank 12) (.ret (.int .i64 (halfN n)) (AH.blank 12)):=
 of_kb (T:=[(2004,12,s73 n 1,e73 n n)]) (fun _=>⟨rfl,rfl⟩) ((half_vc n n _).mpr ⟨half_loop hn,EqI.mk rfl rfl⟩)
noncomputable def kHalf:Known PP II:=Known.pure 73
 (fun X args kn=>match args with
  | [.int .i64 n]=>X.assert (decide (0≤n)&&decide (n≤1000000)) (kn (.int .i64 (halfN n.toNat)))
  | _=>X.fail)
 fun X sem hX args kn h=>by
  split at h
  ·obtain ⟨h1,h2⟩:=hX.assert _ _ h
   simp only [Bool.and_eq_true,decide_eq_true_eq] at h1
   refine ⟨_,h2,fun _=>rfl,fun _=>rfl,?_⟩
   have:=half_ok (n := ‹Int›.toNat) (by omega)
   rwa [Int.toNat_of_nonneg h1.1] at this
  ·exact absurd h hX.fail
theorem pick_vc (c n:Int) (Q:AV→Prop): (kb [] [] 29 [.int .i64 c,.int .i64 n] Q)=(Cond (decide (c<0)) (Asks (inR .i64 (c+1)) (Asks (inR .i64 (0-(c+1))) (Asks (!decide (n=0)) (Q (AV.int .i64 (Int.tmod (0-(c+1)) n)))))) (Asks (!decide (n=0)) (Q (AV.int .i64 (Int.tmod c n))))):=by kernel_rfl
theorem pick67_vc (c n:Int) (Q:AV→Prop): (kb [] [] 67 [.int .i64 c,.int .i64 n] Q)=(Cond (decide (c<0)) (Asks (inR .i64 (c+1)) (Asks (inR .i64 (0-(c+1))) (Asks (!decide (n=0)) (Q (AV.int .i64 (Int.tmod (0-(c+1)) n)))))) (Asks (!decide (n=0)) (Q (AV.int .i64 (Int.tmod c n))))):=by kernel_rfl
def pickF (c n:Int): Int:=match decide (c<0) with | true=>(-(c+1))%n | false=>c%n
theorem pickF_lt {c n:Int} (hn:0<n): 0≤pickF c n∧pickF c n<n:=by
 unfold pickF
 split<;>exact ⟨Int.emod_nonneg _ (by omega),Int.emod_lt_of_pos _ hn⟩
theorem pick_ok {c n:Int} (hc:inR .i64 c=true) (hn:0<n): CallGives PP II 29 [.int .i64 c,.int .i64 n] (AH.blank 12) (.ret (.int .i64 (pickF c n)) (AH.blank 12)):=by
 rw [inR_iff] at hc
 refine of_kb (ks:=[]) (T:=[]) (fun _=>⟨rfl,rfl⟩) ((pick_vc c n _).mpr (Cond.mk (fun h=>?_) (fun h=>?_)))
 ·have h':=h
  simp only [decide_eq_true_eq] at h'
  refine Asks.mk (inR_small (by omega) (by omega)) (Asks.mk (inR_small (by omega) (by omega)) (Asks.mk (by simp;omega) ?_))
  unfold pickF
  rw [h,Int.tmod_eq_emod_of_nonneg (by omega)]
  congr 2;omega
 ·have h':=h
  simp only [decide_eq_false_iff_not] at h'
  refine Asks.mk (by simp;omega) ?_
  unfold pickF
  rw [h,Int.tmod_eq_emod_of_nonneg (by omega)]
theorem pick67_ok {c n:Int} (hc:inR .i64 c=true) (hn:0<n): CallGives PP II 67 [.int .i64 c,.int .i64 n] (AH.blank 12) (.ret (.int .i64 (pickF c n)) (AH.blank 12)):=by
 rw [inR_iff] at hc
 refine of_kb (ks:=[]) (T:=[]) (fun _=>⟨rfl,rfl⟩) ((pick67_vc c n _).mpr (Cond.mk (fun h=>?_) (fun h=>?_)))
 ·have h':=h
  simp only [decide_eq_true_eq] at h'
  refine Asks.mk (inR_small (by omega) (by omega)) (Asks.mk (inR_small (by omega) (by omega)) (Asks.mk (by simp;omega) ?_))
  unfold pickF
  rw [h,Int.tmod_eq_emod_of_nonneg (by omega)]
  congr 2;omega
 ·have h':=h
  simp only [decide_eq_false_iff_not] at h'
  refine Asks.mk (by simp;omega) ?_
  unfold pickF
  rw [h,Int.tmod_eq_emod_of_nonneg (by omega)]
noncomputable def kPick (f:FuncId) (hf:f=29∨f=67): Known PP II:=Known.pure f
 (fun X args kn=>match args with
  | [.int .i64 c,.int .i64 n]=>X.assert (inR .i64 c&&decide (0<n)) (kn (.int .i64 (pickF c n)))
  | _=>X.fail)
 fun X sem hX args kn h=>by
  split at h
  ·obtain ⟨h1,h2⟩:=hX.assert _ _ h
   simp only [Bool.and_eq_true,decide_eq_true_eq] at h1
   refine ⟨_,h2,fun _=>rfl,fun _=>rfl,?_⟩
   rcases hf with rfl | rfl
   ·exact pick_ok h1.1 h1.2
   ·exact pick67_ok h1.1 h1.2
  ·exact absurd h hX.fail
end Go.Sx
end
section
set_option maxRecDepth 1000000
namespace Go.Sx
open Go
def cmpF (a b:Int): Int:=if a<b then -1 else if a>b then 1 else 0
theorem compare_vc (a b:Int) (Q:AV→Prop): (kb [] [] 110 [.int .i64 a,.int .i64 b] Q)=(Cond (!decide (a=a)) (Cond (!decide (b=b)) (Q (AV.int .i64 0)) (Q (AV.int .i64 (-1:Int)))) (Cond (!decide (b=b)) (Q (AV.int .i64 1)) (Cond (decide (a<b)) (Q (AV.int .i64 (-1:Int))) (Cond (decide (a>b)) (Q (AV.int .i64 1)) (Q (AV.int .i64 0)))))):=by kernel_rfl
theorem compare_ok (a b:Int): CallGives PP II 110 [.int .i64 a,.int .i64 b] (AH.blank 12) (.ret (.int .i64 (cmpF a b)) (AH.blank 12)):=by
 refine of_kb (ks:=[]) (T:=[]) (fun _=>⟨rfl,rfl⟩) ((compare_vc a b _).mpr ?_)
 unfold cmpF
 refine Cond.mk (fun h=>absurd h (by simp)) (fun _=>Cond.mk (fun h=>absurd h (by simp)) (fun _=>Cond.mk (fun h=>?_) (fun h=>Cond.mk (fun h2=>?_) (fun h2=>?_))))
 all_goals simp only [decide_eq_true_eq,decide_eq_false_iff_not] at*
 ·rw [if_pos h]
 ·rw [if_neg h,if_pos h2]
 ·rw [if_neg h,if_neg h2]
noncomputable def kCompare:Known PP II:=Known.pure 110
 (fun X args kn=>match args with
  | [.int .i64 a,.int .i64 b]=>kn (.int .i64 (cmpF a b))
  | _=>X.fail)
 fun X sem hX args kn h=>by
  split at h
  ·exact ⟨_,h,fun _=>rfl,fun _=>rfl,compare_ok _ _⟩
  ·exact absurd h hX.fail
def orF (a b:Int): Int:=if a=0 then b else a
theorem or_vc (a b:Int) (Q:AV→Prop): (kb [] [] 116 [.fslice 2 1 (fun i=>match i with | 0=>[.int .i64 a] | _=>[.int .i64 b])] Q)=
 (Cond (!decide (a=(0:Int))) (Q (AV.int IntKind.i64 a))
 (Asks (inR IntKind.i64 (1:Int))
  (Cond (!decide (b=(0:Int))) (Q (AV.int IntKind.i64 b))
   (Asks (inR IntKind.i64 (2:Int)) (Q (AV.int IntKind.i64 (0:Int))))))):=by kernel_rfl
theorem or_ok (a b:Int): CallGives PP II 116 [.fslice 2 1 (fun i=>match i with | 0=>[.int .i64 a] | _=>[.int .i64 b])] (AH.blank 12) (.ret (.int .i64 (orF a b)) (AH.blank 12)):=by
 refine of_kb (ks:=[]) (T:=[]) (fun _=>⟨rfl,rfl⟩) ((or_vc a b _).mpr ?_)
 unfold orF
 repeat' (first | refine Cond.mk (fun _=>?_) (fun _=>?_) | refine Asks.mk (inR_small (by omega) (by omega)) ?_)
 all_goals simp_all
theorem VRs.le_id {ρ:Env} {xs ys:List AV} {vs:List Value} (h:AVs.le (fun l=>l) xs ys) (k:VRs ρ xs vs): VRs ρ ys vs:=VRs.le xs ys vs h k
theorem CallGives.argsLe {P:Program} {I:Info} {f:FuncId} {args args':List AV} {H:AH} {o:CO} (h:CallGives P I f args' H o) (k:AVs.le (fun l=>l) args args'): CallGives P I f args H o :=
 fun c ρ w vs hG hv hr=>h c ρ w vs hG (VRs.le_id k hv) hr
noncomputable def kOr:Known PP II:=Known.pure 116
 (fun X args kn=>match args with
  | [.fslice 2 1 f]=>match f 0,f 1 with
   | [.int .i64 a],[.int .i64 b]=>kn (.int .i64 (orF a b))
   | _,_=>X.fail
  | _=>X.fail)
 fun X sem hX args kn h=>by
  split at h
  ·split at h
   ·rename_i f _ _ a b h0 h1
    refine ⟨_,h,fun _=>rfl,fun _=>rfl,(or_ok a b).argsLe ⟨⟨rfl,rfl,fun i hi=>?_⟩,trivial⟩⟩
    match i,hi with
    | 0,_=>rw [h0];exact ⟨⟨rfl,rfl⟩,trivial⟩
    | 1,_=>rw [h1];exact ⟨⟨rfl,rfl⟩,trivial⟩
   ·exact absurd h hX.fail
  ·exact absurd h hX.fail
structure Fact where
 (t s v w o p d l h b:Int)
 deriving DecidableEq
def factAV (x:Fact): List AV:=[.int .i64 x.t,.int .i64 x.s,.int .i64 x.v,.int .i64 x.w,.int .i64 x.o,.int .i64 x.p,.int .i64 x.d,.int .i64 x.l,.int .i64 x.h,.int .i64 x.b]
def toFact:List AV→Option Fact
 | [.int .i64 t,.int .i64 s,.int .i64 v,.int .i64 w,.int .i64 o,.int .i64 p,.int .i64 d,.int .i64 l,.int .i64 h,.int .i64 b]=>some ⟨t,s,v,w,o,p,d,l,h,b⟩
 | _=>none
theorem toFact_ok {cs:List AV} {x:Fact} (h:toFact cs=some x): cs=factAV x:=by
 unfold toFact at h
 split at h
 ·cases h;rfl
 ·cases h
theorem valid_vc (x:Fact) (Q:AV→Prop): (kb [kWithin] [] 38 [.agg (factAV x)] Q)=(Cond (decide (x.t≥0)&&decide (x.t≤999)) (Cond (decide (x.s≥0)&&decide (x.s≤9)) (Cond (decide (x.v≥0)&&decide (x.v≤7)) (Cond (decide (x.w≥0)&&decide (x.w≤9)) (Cond (decide (x.o≥0)&&decide (x.o≤11)) (Cond (decide (x.p≥(-1:Int))&&decide (x.p≤19)) (Asks (inR .i64 (Int.tdiv x.t 10)) (Cond (decide (x.d=Int.tdiv x.t 10)) (Cond (decide (x.l≥0)&&decide (x.l≤x.h)) (Cond (decide (x.h≤4398046511104)) (Q (AV.bool (decide (x.b≥0)&&decide (x.b≤24000)))) (Q (AV.bool false))) (Q (AV.bool false))) (Q (AV.bool false)))) (Q (AV.bool false))) (Q (AV.bool false))) (Q (AV.bool false))) (Q (AV.bool false))) (Q (AV.bool false))) (Q (AV.bool false))):=by kernel_rfl
theorem byPlace_vc (x y:Fact) (Q:AV→Prop): (kb [kCompare,kOr] [] 69 [.agg (factAV x),.agg (factAV y)] Q)=
 (Asks (decide (Fact.s x=Fact.s x))
 (Asks (decide (Fact.s y=Fact.s y))
  (Q (AV.int IntKind.i64 (orF (cmpF (Fact.t x) (Fact.t y)) (cmpF (Fact.s x) (Fact.s y))))))):=by kernel_rfl
def validF (x:Fact): Bool :=
 (decide (x.t≥0)&&decide (x.t≤999))&&(decide (x.s≥0)&&decide (x.s≤9))&&(decide (x.v≥0)&&decide (x.v≤7))&&(decide (x.w≥0)&&decide (x.w≤9))&&(decide (x.o≥0)&&decide (x.o≤11))&&
 (decide (x.p≥ -1)&&decide (x.p≤19))&&decide (x.d=Int.tdiv x.t 10)&&(decide (x.l≥0)&&decide (x.l≤x.h))&&decide (x.h≤4398046511104)&&(decide (x.b≥0)&&decide (x.b≤24000))
theorem valid_ok (x:Fact): CallGives PP II 38 [.agg (factAV x)] (AH.blank 12) (.ret (.bool (validF x)) (AH.blank 12)):=by
 refine of_kb (ks:=[kWithin]) (T:=[]) (fun _=>rfl) ((valid_vc x _).mpr ?_)
 unfold validF
 repeat' (first
  | (refine Asks.iff.2 ⟨?_,?_⟩)
  | (refine Cond.mk (fun h=>?_) (fun h=>?_)))
 all_goals (try simp only [*,Bool.true_and,Bool.false_and,Bool.and_true,Bool.and_false])
 simp only [Bool.and_eq_true,decide_eq_true_eq] at*
 exact inR_small (by rw [Int.tdiv_eq_ediv_of_nonneg (by omega)];omega) (by rw [Int.tdiv_eq_ediv_of_nonneg (by omega)];omega)
noncomputable def kValid:Known PP II:=Known.pure 38
 (fun X args kn=>match args with
  | [.agg cs]=>match toFact cs with
   | some x=>kn (.bool (validF x))
   | none=>X.fail
  | _=>X.fail)
 fun X sem hX args kn h=>by
  split at h
  ·split at h
   ·rename_i cs x hx
    have:=toFact_ok hx
    subst this
    exact ⟨_,h,fun _=>rfl,fun _=>rfl,valid_ok _⟩
   ·exact absurd h hX.fail
  ·exact absurd h hX.fail
def placeF (x y:Fact): Int:=orF (cmpF x.t y.t) (cmpF x.s y.s)
theorem byPlace_ok (x y:Fact): CallGives PP II 69 [.agg (factAV x),.agg (factAV y)] (AH.blank 12) (.ret (.int .i64 (placeF x y)) (AH.blank 12)):=
 of_kb (ks:=[kCompare,kOr]) (T:=[]) (fun _=>⟨rfl,rfl⟩) ((byPlace_vc x y _).mpr (Asks.mk (by simp) (Asks.mk (by simp) rfl)))
noncomputable def kByPlace:Known PP II:=Known.pure 69
 (fun X args kn=>match args with
  | [.agg cs,.agg ds]=>match toFact cs,toFact ds with
   | some x,some y=>kn (.int .i64 (placeF x y))
   | _,_=>X.fail
  | _=>X.fail)
 fun X sem hX args kn h=>by
  split at h
  ·split at h
   ·rename_i cs ds _ _ x y hx hy
    have h1:=toFact_ok hx
    have h2:=toFact_ok hy
    subst h1 h2
    exact ⟨_,h,fun _=>rfl,fun _=>rfl,byPlace_ok _ _⟩
   ·exact absurd h hX.fail
  ·exact absurd h hX.fail
def factsAV (n:Nat) (F:Nat→Fact): AV:=.fslice n 10 (fun i=>factAV (F i))
noncomputable def s70 (n:Nat) (F:Nat→Fact) (i:Int): St:={t:=Tr.ofList [(0,factsAV n F),(1,.fn 69 [] []),(5,.int .i64 i)],nt:=25,H:=AH.blank 12,df:=[]}
noncomputable def e70 (n:Nat) (F:Nat→Fact) (b:Bool): GE:=.cond b (.one (.x 0 {t:=.e,nt:=25,H:=AH.blank 12,df:=[]})) (.one (.r {t:=Tr.ofList [(4,.bool false)],nt:=25,H:=AH.blank 12,df:=[]}))
theorem sorted_step (n:Nat) (F:Nat→Fact) (b:Bool) (i:Int) (Q:Prop): (kr [kByPlace] [] 70 2002 12 (s70 n F) (fun _=>e70 n F b) (fun i=>i-1) Q i)=(Cond (decide (i>0)) (Asks (decide (0≤i)&&decide (i<Int.ofNat n)) (Asks (inR .i64 (i-1)) (Asks (decide (0≤i-1)&&decide (i-1<Int.ofNat n)) (Cond (decide (placeF (F (Int.toNat i)) (F (Int.toNat (i-1)))<0)) (Cond b False (false=false∧True)) (Asks (inR .i64 (i-1)) (EqI (i-1) (i-1) (EqN n n ((RowsLe n (fun i=>factAV (F i)) fun i=>factAV (F i))∧Q)))))))) (Cond b True False)):=by kernel_rfl
theorem sorted_vc (n:Nat) (F:Nat→Fact) (b:Bool) (Q:AV→Prop): (kb [kByPlace] [(2002,12,s70 n F (n-1),e70 n F b)] 70 [factsAV n F,.fn 69 [] []] Q)=(Asks (inR .i64 (Int.ofNat n-1)) (LoopAt PP II false (loopOf II 70 2002) 12 (s70 n F (Int.ofNat n-1)) (e70 n F b)∧EqI (Int.ofNat n-1) (Int.ofNat n-1) (EqN n n ((RowsLe n (fun i=>factAV (F i)) fun i=>factAV (F i))∧Cond b (Q (AV.bool true)) (Q (AV.bool false)))))):=by kernel_rfl
theorem factAV_le (σ:Nat→Nat) (x:Fact): AVs.le σ (factAV x) (factAV x):=⟨⟨rfl,rfl⟩,⟨rfl,rfl⟩,⟨rfl,rfl⟩,⟨rfl,rfl⟩,⟨rfl,rfl⟩,⟨rfl,rfl⟩,⟨rfl,rfl⟩,⟨rfl,rfl⟩,⟨rfl,rfl⟩,⟨rfl,rfl⟩,trivial⟩
def sortedTo (F:Nat→Fact): Nat→Bool
 | 0=>true
 | k+1=>!decide (placeF (F (k+1)) (F k)<0)&&sortedTo F k
theorem sorted_loop (n:Nat) (F:Nat→Fact) (hn:n≤1000000): LoopAt PP II false (loopOf II 70 2002) 12 (s70 n F (Int.ofNat n-1)) (e70 n F (sortedTo F (n-1))):=
 LoopAt.of (ι:=Int) hII [kByPlace] (lamT_ok PP II []) 1000 12 (fun i=> -1≤i∧i<n∧sortedTo F (n-1)=sortedTo F i.toNat) (s70 n F) (fun _=>e70 n F (sortedTo F (n-1))) (fun i=>(i+1).toNat) (fun i=>i-1) (Int.ofNat n-1) rfl
  (by refine ⟨by show -1≤(n:Int)-1;omega,by show (n:Int)-1<n;omega,?_⟩;congr 1;show n-1=((n:Int)-1).toNat;omega) fun i ⟨h1,h2,h3⟩=>by
  refine (sorted_step n F _ i _).mpr (Cond.mk (fun h=>?_) fun h=>?_)
  ·simp only [decide_eq_true_eq] at h
   obtain ⟨k,rfl⟩: ∃ k:Nat,i=(k:Int)+1:=⟨i.toNat-1,by omega⟩
   have e1:((k:Int)+1).toNat=k+1:=by omega
   have e2:((k:Int)+1-1).toNat=k:=by omega
   rw [e1,e2]
   rw [e1] at h3
   simp only [sortedTo] at h3
   refine Asks.mk (by simp;constructor<;>omega) (Asks.mk (inR_small (by omega) (by omega)) (Asks.mk (by simp;omega) (Cond.mk (fun h=>?_) fun h=>?_)))
   ·rw [h3,h];exact ⟨rfl,trivial⟩
   ·refine Asks.mk (inR_small (by omega) (by omega)) (EqI.mk rfl (EqN.mk rfl ⟨RowsLe.same fun _ _=>factAV_le _ _,⟨by omega,by omega,?_⟩,by omega,rfl⟩))
    rw [h3,h];exact (Bool.true_and _)
  ·simp only [decide_eq_false_iff_not] at h
   have:i.toNat=0:=by omega
   rw [this] at h3
   rw [h3]
   trivial
theorem sorted_ok (n:Nat) (F:Nat→Fact) (hn:n≤1000000): CallGives PP II 70 [factsAV n F,.fn 69 [] []] (AH.blank 12) (.ret (.bool (sortedTo F (n-1))) (AH.blank 12)):=by
 refine of_kb (T:=[(2002,12,s70 n F (n-1),e70 n F (sortedTo F (n-1)))]) (fun _=>rfl) ((sorted_vc n F _ _).mpr (Asks.mk (inR_small (by show _≤(n:Int)-1;omega) (by show (n:Int)-1≤_;omega)) ⟨sorted_loop n F hn,EqI.mk rfl (EqN.mk rfl ⟨RowsLe.same fun _ _=>factAV_le _ _,?_⟩)⟩))
 exact Cond.mk (fun h=>by rw [h]) fun h=>by rw [h]
def factAt (f:Nat→List AV) (i:Nat): Fact:=match toFact (f i) with | some x=>x | none=>⟨0,0,0,0,0,0,0,0,0,0⟩
def isFacts (n:Nat) (f:Nat→List AV): Bool:=(List.range n).all fun i=>(toFact (f i)).isSome
theorem isFacts_ok {n:Nat} {f:Nat→List AV} (h:isFacts n f=true): AV.le (fun l=>l) (.fslice n 10 f) (factsAV n (factAt f)):=by
 refine ⟨rfl,rfl,fun i hi=>?_⟩
 have:=List.all_eq_true.1 h i (List.mem_range.2 hi)
 unfold factAt
 cases hx:toFact (f i) with
 | none=>rw [hx] at this;cases this
 | some x=>simp only [hx];rw [toFact_ok hx];exact factAV_le _ _
theorem isFacts_facts (n:Nat) (F:Nat→Fact): isFacts n (fun i=>factAV (F i))=true:=List.all_eq_true.2 fun _ _=>rfl
theorem factAt_facts (F:Nat→Fact): factAt (fun i=>factAV (F i))=F:=rfl
noncomputable def kSorted:Known PP II:=Known.pure 70
 (fun X args kn=>match args with
  | [.fslice n 10 f,.fn 69 [] []]=>X.assert (decide (n≤1000000)&&isFacts n f) (kn (.bool (sortedTo (factAt f) (n-1))))
  | _=>X.fail)
 fun X sem hX args kn h=>by
  split at h
  ·obtain ⟨h1,h2⟩:=hX.assert _ _ h
   simp only [Bool.and_eq_true,decide_eq_true_eq] at h1
   exact ⟨_,h2,fun _=>rfl,fun _=>rfl,(sorted_ok _ _ h1.1).argsLe ⟨isFacts_ok h1.2,⟨rfl,trivial,trivial⟩,trivial⟩⟩
  ·exact absurd h hX.fail
def okAt (F:Nat→Fact) (k:Nat): Bool:=validF (F k)&&(match k with | 0=>true | k+1=>!decide (placeF (F k) (F (k+1))≥0))
def allOk (n:Nat) (F:Nat→Fact): Bool:=(List.range n).all (okAt F)
noncomputable def s31 (n:Nat) (F:Nat→Fact) (i:Int): St:={t:=Tr.ofList [(0,factsAV n F),(5,factsAV n F),(6,.int .i64 n),(7,.int .i64 i)],nt:=37,H:=AH.blank 12,df:=[]}
noncomputable def e31 (n:Nat) (F:Nat→Fact) (b:Bool): GE:=.cond b (.one (.x 0 {t:=Tr.ofList [(0,factsAV n F)],nt:=37,H:=AH.blank 12,df:=[]})) (.one (.r {t:=Tr.ofList [(2,.bool false)],nt:=37,H:=AH.blank 12,df:=[]}))
theorem valids_step (n : Nat) (F : Nat → Fact) (b : Bool) (i : Int) (Q : Prop) : (kr [kValid, kByPlace, kSorted] [] 31 2001 12 (s31 n F) (fun _ => e31 n F b) (fun i => i + 1) Q i) = (Cond (decide (i < Int.ofNat n)) (Asks (decide (0 ≤ i) && decide (i < Int.ofNat n)) (Cond (!validF (F (Int.toNat i))) (Cond b False (false = false ∧ True)) (Cond (decide (i > 0)) (Asks (inR .i64 (i - 1)) (Asks (decide (0 ≤ i - 1) && decide (i - 1 < Int.ofNat n)) (Cond (decide (placeF (F (Int.toNat (i - 1))) (F (Int.toNat i)) ≥ 0)) (Cond b False (false = false ∧ True)) (Asks (inR .i64 (i + 1)) (EqI (i + 1) (i + 1) (EqN n n ((RowsLe n (fun i => factAV (F i)) fun i => factAV (F i)) ∧ EqN n n ((RowsLe n (fun i => factAV (F i)) fun i => factAV (F i)) ∧ EqI (Int.ofNat n) (Int.ofNat n) Q)))))))) (Asks (inR .i64 (i + 1)) (EqI (i + 1) (i + 1) (EqN n n ((RowsLe n (fun i => factAV (F i)) fun i => factAV (F i)) ∧ EqN n n
 ((RowsLe n (fun i => factAV (F i)) fun i => factAV (F i)) ∧ EqI (Int.ofNat n) (Int.ofNat n) Q)))))))) (Cond b (EqN n n ((RowsLe n (fun i => factAV (F i)) fun i => factAV (F i)) ∧ True)) False)) := by kernel_rfl
theorem valids_vc (n:Nat) (F:Nat→Fact) (b:Bool) (Q:AV→Prop): (kb [kValid,kByPlace,kSorted] [(2001,12,s31 n F 0,e31 n F b)] 31 [factsAV n F] Q)=(LoopAt PP II false (loopOf II 31 2001) 12 (s31 n F 0) (e31 n F b)∧EqN n n ((RowsLe n (fun i=>factAV (F i)) fun i=>factAV (F i))∧EqN n n ((RowsLe n (fun i=>factAV (F i)) fun i=>factAV (F i))∧EqI (Int.ofNat n) (Int.ofNat n) (Cond b (Cond (decide (Int.ofNat n≤400)) (Asks (decide (n≤1000000)&&isFacts n fun i=>factAV (F i)) (Q (AV.bool (sortedTo (factAt fun i=>factAV (F i)) (n-1))))) (Q (AV.bool false))) (Q (AV.bool false)))))):=by kernel_rfl
theorem allOk_false {n k:Nat} {F:Nat→Fact} (hk:k<n) (h:okAt F k=false): allOk n F=false:=by
 unfold allOk
 cases hb:(List.range n).all (okAt F) with
 | false=>rfl
 | true=>rw [List.all_eq_true.1 hb k (List.mem_range.2 hk)] at h;cases h
theorem valids_loop (n:Nat) (F:Nat→Fact) (hn:n≤1000000): LoopAt PP II false (loopOf II 31 2001) 12 (s31 n F 0) (e31 n F (allOk n F)):=
 LoopAt.of (ι:=Int) hII [kValid,kByPlace,kSorted] (lamT_ok PP II []) 1000 12 (fun i=>0≤i∧i≤n∧ ∀ k:Nat,k<i→okAt F k=true) (s31 n F) (fun _=>e31 n F (allOk n F)) (fun i=>(n-i).toNat) (fun i=>i+1) 0 rfl
  ⟨by omega,by omega,fun k hk=>by omega⟩ fun i ⟨h1,h2,h3⟩=>by
  obtain ⟨k,rfl⟩: ∃ k:Nat,i=(k:Int):=⟨i.toNat,by omega⟩
  have nextOk:k<n→okAt F k=true→((0:Int)≤(k:Int)+1∧(k:Int)+1≤n∧ ∀ j:Nat,(j:Int)<(k:Int)+1→okAt F j=true):=fun hk ho=>
   ⟨by omega,by omega,fun j hj=>by
    by_cases e:j=k
    ·subst e;exact ho
    ·exact h3 j (by omega)⟩
  refine (valids_step n F _ k _).mpr (Cond.mk (fun h=>?_) fun h=>?_)
  ·simp only [decide_eq_true_eq] at h
   have hkn:k<n:=by have:(k:Int)<(n:Int):=h;omega
   have hR:inR .i64 ((k:Int)+1)=true:=inR_small (by omega) (by omega)
   rw [Int.toNat_natCast]
   refine Asks.mk (by simp;exact hkn) (Cond.mk (fun h=>?_) fun h=>?_)
   ·have:okAt F k=false:=by unfold okAt;simp only [Bool.not_eq_true'] at h;rw [h];rfl
    rw [allOk_false hkn this];exact ⟨rfl,trivial⟩
   ·simp only [Bool.not_eq_false'] at h
    refine Cond.mk (fun h0=>?_) fun h0=>?_
    ·simp only [decide_eq_true_eq] at h0
     obtain ⟨m,hm⟩: ∃ m:Nat,k=m+1:=⟨k-1,by omega⟩
     have e2:((k:Int)-1).toNat=m:=by omega
     have e3:okAt F k=(validF (F k)&& !decide (placeF (F m) (F k)≥0)):=by subst hm;rfl
     rw [e2]
     refine Asks.mk (inR_small (by omega) (by omega)) (Asks.mk (by simp;omega) (Cond.mk (fun h1=>?_) fun h1=>?_))
     ·rw [h,h1] at e3
      rw [allOk_false hkn e3];exact ⟨rfl,trivial⟩
     ·rw [h,h1] at e3
      rw [hR]
      refine EqI.mk rfl (EqN.mk rfl ⟨RowsLe.same fun _ _=>factAV_le _ _,EqN.mk rfl ⟨RowsLe.same fun _ _=>factAV_le _ _,EqI.mk rfl ⟨nextOk hkn e3,?_,rfl⟩⟩⟩)
      show (_:Int).toNat<(_:Int).toNat
      omega
    ·simp only [decide_eq_false_iff_not] at h0
     have:k=0:=by omega
     subst this
     have:okAt F 0=true:=by unfold okAt;rw [h];rfl
     refine Asks.mk (inR_small (by omega) (by omega)) (EqN.mk rfl ⟨RowsLe.same fun _ _=>factAV_le _ _,EqN.mk rfl ⟨RowsLe.same fun _ _=>factAV_le _ _,EqI.mk rfl ⟨nextOk hkn this,by omega,rfl⟩⟩⟩)
  ·simp only [decide_eq_false_iff_not] at h
   have hkn : ¬ k<n:=fun e=>h (by show (k:Int)<(n:Int);omega)
   have:allOk n F=true:=List.all_eq_true.2 fun j hj=>h3 j (by have:=List.mem_range.1 hj;omega)
   rw [this]
   exact EqN.mk rfl ⟨RowsLe.same fun _ _=>factAV_le _ _,trivial⟩
def validsF (n:Nat) (F:Nat→Fact): Bool:=allOk n F&&decide (n≤400)&&sortedTo F (n-1)
theorem valids_ok (n:Nat) (F:Nat→Fact) (hn:n≤1000000): CallGives PP II 31 [factsAV n F] (AH.blank 12) (.ret (.bool (validsF n F)) (AH.blank 12)):=by
 refine of_kb (T:=[(2001,12,s31 n F 0,e31 n F (allOk n F))]) (fun _=>rfl) ((valids_vc n F _ _).mpr ⟨valids_loop n F hn,EqN.mk rfl ⟨RowsLe.same fun _ _=>factAV_le _ _,EqN.mk rfl ⟨RowsLe.same fun _ _=>factAV_le _ _,EqI.mk rfl ?_⟩⟩⟩)
 unfold validsF
 refine Cond.mk (fun h=>Cond.mk (fun h2=>Asks.mk ?_ ?_) fun h2=>?_) fun h=>?_
 ·rw [isFacts_facts];simp [hn]
 ·simp only [decide_eq_true_eq] at h2
  have:n≤400:=by have:(n:Int)≤400:=h2;omega
  rw [h,factAt_facts,decide_eq_true this];rfl
 ·simp only [decide_eq_false_iff_not] at h2
  have : ¬ n≤400:=fun e=>h2 (by show (n:Int)≤400;omega)
  rw [decide_eq_false this,h];rfl
 ·rw [h];rfl
noncomputable def kValids:Known PP II:=Known.pure 31
 (fun X args kn=>match args with
  | [.fslice n 10 f]=>X.assert (decide (n≤1000000)&&isFacts n f) (kn (.bool (validsF n (factAt f))))
  | [.nilSlice]=>kn (.bool (validsF 0 fun _=>⟨0,0,0,0,0,0,0,0,0,0⟩))
  | _=>X.fail)
 fun X sem hX args kn h=>by
  split at h
  ·obtain ⟨h1,h2⟩:=hX.assert _ _ h
   simp only [Bool.and_eq_true,decide_eq_true_eq] at h1
   exact ⟨_,h2,fun _=>rfl,fun _=>rfl,(valids_ok _ _ h1.1).argsLe ⟨isFacts_ok h1.2,trivial⟩⟩
  ·exact ⟨_,h,fun _=>rfl,fun _=>rfl,(valids_ok 0 _ (by omega)).argsLe ⟨rfl,trivial⟩⟩
  ·exact absurd h hX.fail
end Go.Sx
end
section
set_option maxRecDepth 1000000
namespace Go.Sx
open Go
def digN (z:Nat): UInt8:=UInt8.ofNat (z%128+128)
def zN (n:Int): Nat:=if 0≤n then 2*n.toNat else 2*(-n).toNat-1
def putG:Nat→Nat→List UInt8
 | 0,_=>[]
 | f+1,z=>match Nat.blt z 128 with
  | true=>[UInt8.ofNat z]
  | false=>digN z::putG f (z/128)
def putF (n:Int): List UInt8:=putG 10 (zN n)
noncomputable def h207 (s:List UInt8) (z:AV): AH:={n:=17,t:=Tr.ofList [(12,.cells [.own 16 s.length 1] (.ty 151)),(13,.cells [z] (.ty 243)),(14,.dfr),(15,.loop .ready none (Tr.ofList [(4,.ptr 12 0 0 0)]) 33 [21,22] (rangeAs II 123) (rangeBd II 123) 14),(16,.str s (.ty 5))]}
noncomputable def s207 (i:List UInt8×Nat): St:={t:=Tr.ofList [(0,.yield 15),(1,.ptr 13 0 0 0)],nt:=18,H:=h207 i.1 (.int .u64 i.2),df:=[]}
noncomputable def e207 (r:List UInt8): GE:=.one (.r {t:=.e,nt:=18,H:=h207 r .any,df:=[]})
theorem put_step (s r : List UInt8) (z : Nat) (Q : Prop) : (kr [] [] 207 3 16 s207 (fun _ => e207 r) (fun i => (i.1 ++ [digN i.2], i.2 / 128)) Q (s, z)) = (let zz1 := (Int.emod (Int.ofNat (Nat.land (Int.toNat (Int.emod (Int.ofNat z) 18446744073709551616)) 127)) 18446744073709551616); let zz2 := (SameCode (rangeAs II 123) (rangeAs II 123) ∧ SameCode (rangeBd II 123) (rangeBd II 123) ∧ EqI (Int.fdiv (Int.ofNat z) 128) (Int.ofNat (z / 128)) (EqN (List.length s + 1) (List.length (List.append s [digN z])) Q)); (Cond (!decide (Int.ofNat z < 128)) (Asks (decide (List.length s ≤ List.length s) && true && true && decide ((List.length s + 1) * 1 ≤ 140737488355328) && (decide (List.length s = List.length s) && (decide (0 ≤ Int.emod (Int.ofNat (Nat.lor (Int.toNat (Int.emod (Int.emod zz1 256) 256)) 128)) 256) && decide (Int.emod (Int.ofNat (Nat.lor (Int.toNat (Int.emod (Int.emod zz1 256) 256)) 128))
 256 ≤ 255) && true))) (Cond (decide (Int.ofNat z < 128)) (EqB (List.append s [UInt8.ofNat (Int.toNat (Int.emod (Int.ofNat (Nat.lor (Int.toNat (Int.emod (Int.emod zz1 256) 256)) 128)) 256))]) r (SameCode (rangeAs II 123) (rangeAs II 123) ∧ SameCode (rangeBd II 123) (rangeBd II 123) ∧ EqN (List.length s + 1) (List.length r) True)) (EqB (List.append s [UInt8.ofNat (Int.toNat (Int.emod (Int.ofNat (Nat.lor (Int.toNat (Int.emod (Int.emod zz1 256) 256)) 128)) 256))]) (List.append s [digN z]) zz2))) (Asks (decide (List.length s ≤ List.length s) && true && true && decide ((List.length s + 1) * 1 ≤ 140737488355328) && (decide (List.length s = List.length s) && (decide (0 ≤ Int.emod zz1 256) && decide (Int.emod zz1 256 ≤ 255) && true))) (Cond (decide (Int.ofNat z < 128)) (EqB (List.append s [UInt8.ofNat (Int.toNat (Int.emod zz1 256))]) r (SameCode (rangeAs II 123) (rangeAs II 123) ∧ SameCode
 (rangeBd II 123) (rangeBd II 123) ∧ EqN (List.length s + 1) (List.length r) True)) (EqB (List.append s [UInt8.ofNat (Int.toNat (Int.emod zz1 256))]) (List.append s [digN z]) zz2))))) := by kernel_rfl
theorem put_vc (n:Int) (s r:List UInt8) (z:Nat) (Q:AV→Prop): (kb [] [(3,16,s207 ([],zN n),e207 r)] 123 [.int .i64 n] Q)=(Cond (decide (n<(-4611686018427387903:Int))) (Q (AV.tup [AV.str [],AV.int .i64 10])) (Cond (decide (n>4611686018427387903)) (Q (AV.tup [AV.str [],AV.int .i64 10])) (LoopAt PP II false (loopOf II 207 3) 16 (s207 ([],zN n)) (e207 r)∧EqB [] [] (SameCode (rangeAs II 123) (rangeAs II 123)∧SameCode (rangeBd II 123) (rangeBd II 123)∧EqI (Int.emod (Int.ofNat (Nat.xor (Int.toNat (Int.emod (Int.emod (Int.emod n 18446744073709551616*2) 18446744073709551616) 18446744073709551616)) (Int.toNat (Int.emod (Int.emod (Int.fdiv n 9223372036854775808) 18446744073709551616) 18446744073709551616)))) 18446744073709551616) (Int.ofNat (zN n)) (Asks (decide (List.length r=List.length r)) (Q (AV.tup [AV.str r,AV.int .i64 0]))))))):=by kernel_rfl
theorem low7 {z:Nat} (hz:z<18446744073709551616): Int.emod (Int.ofNat (Nat.land (Int.toNat (Int.emod (Int.ofNat z) 18446744073709551616)) 127)) 18446744073709551616=Int.ofNat (z%128):=by
 have h1:Int.emod (Int.ofNat z) 18446744073709551616=(z:Int):=Int.emod_eq_of_lt (by show (0:Int)≤(z:Int);omega) (by show (z:Int)<_;omega)
 rw [h1,Int.toNat_natCast]
 have h2:Nat.land z 127=z%128:=Nat.and_two_pow_sub_one_eq_mod z 7
 rw [h2]
 exact Int.emod_eq_of_lt (by show (0:Int)≤((z%128:Nat): Int);omega) (by show ((z%128:Nat): Int)<_;omega)
theorem fdiv128 (z:Nat): Int.fdiv (Int.ofNat z) 128=Int.ofNat (z/128):=by
 rw [Int.fdiv_eq_ediv_of_nonneg _ (by omega)]
 rfl
theorem low7b {z:Nat} (_:z<18446744073709551616): Int.emod (Int.ofNat (z%128)) 256=Int.ofNat (z%128):=
 Int.emod_eq_of_lt (by show (0:Int)≤((z%128:Nat): Int);omega) (by show ((z%128:Nat): Int)<_;omega)
theorem or128 (z:Nat): Nat.lor (z%128) 128=z%128+128:=by
 have h:z%128<2^7:=Nat.mod_lt _ (by decide)
 have h2:=Nat.two_pow_add_eq_or_of_lt h 1
 have h3:(2^7*1 ||| z%128)=Nat.lor (z%128) 128:=Nat.or_comm _ _
 rw [h3] at h2
 omega
theorem low7d (z:Nat): Int.emod (Int.ofNat (z%128+128)) 256=Int.ofNat (z%128+128):=
 Int.emod_eq_of_lt (by show (0:Int)≤((z%128+128:Nat): Int);omega) (by show ((z%128+128:Nat): Int)<_;omega)
theorem toNat_ofNat (n:Nat): Int.toNat (Int.ofNat n)=n:=rfl
theorem put_loop {z0:Nat} (hz0:z0<18446744073709551616): LoopAt PP II false (loopOf II 207 3) 16 (s207 ([],z0)) (e207 (putG 10 z0)):=
 LoopAt.of (ι:=List UInt8×Nat) hII [] (lamT_ok PP II []) 1000 16 (fun i=>i.2<18446744073709551616∧ ∃ k,i.2<128^k∧0<k∧i.1.length+k=10∧putG 10 z0=i.1++putG k i.2) s207 (fun _=>e207 (putG 10 z0)) (fun i=>i.2) (fun i=>(i.1++[digN i.2],i.2/128)) ([],z0) rfl
  ⟨hz0,10,by show z0<_;omega,by omega,rfl,rfl⟩ fun i hi=>by
  obtain ⟨s,z⟩:=i
  obtain ⟨hz,k,hk,hk0,hl,hr⟩:=hi
  change z<_ at hz
  change z<128^k at hk
  change s.length+k=10 at hl
  change putG 10 z0=s++putG k z at hr
  obtain ⟨k,rfl⟩: ∃ m,k=m+1:=⟨k-1,by omega⟩
  have e0:(Int.ofNat z<(128:Int))↔z<128:=by show ((z:Int)<128)↔_;omega
  refine (put_step s (putG 10 z0) z _).mpr ?_
  simp only [low7 hz,low7b hz,toNat_ofNat,or128,low7d,e0]
  have b1:(0:Int)≤Int.ofNat (z%128+128):=by show (0:Int)≤((z%128+128:Nat): Int);omega
  have b2:Int.ofNat (z%128+128)≤(255:Int):=by show ((z%128+128:Nat): Int)≤_;omega
  have b3:(0:Int)≤Int.ofNat (z%128):=by show (0:Int)≤((z%128:Nat): Int);omega
  have b4:Int.ofNat (z%128)≤(255:Int):=by show ((z%128:Nat): Int)≤_;omega
  refine Cond.mk (fun h=>Asks.mk ?_ (Cond.mk (fun h2=>?_) fun h2=>?_)) fun h=>Asks.mk ?_ (Cond.mk (fun h2=>?_) fun h2=>?_)
  all_goals simp only [Bool.not_eq_true',Bool.not_eq_false',decide_eq_true_eq,decide_eq_false_iff_not] at*
  ·simp [b1,b2];omega
  ·exact absurd h2 h
  ·have hr2:putG 10 z0=(s++[digN z])++putG k (z/128):=by
    have hb:Nat.blt z 128=false:=by rw [Bool.eq_false_iff];intro e;rw [Nat.blt_eq] at e;exact h e
    rw [hr];simp [putG,hb]
   have hk1:z/128<128^k:=by rw [Nat.div_lt_iff_lt_mul (by omega)];rw [Nat.pow_succ] at hk;exact hk
   have hk2:0<k:=by
    cases k with
    | zero=>simp at hk;omega
    | succ k=>omega
   have j1:z/128<18446744073709551616:=by omega
   have j2:(s++[digN z]).length+k=10:=by simp;omega
   have j3:z/128<z:=by omega
   repeat' (first | exact trivial | apply EqN.mk | apply EqI.mk | with_reducible rfl | exact rfl | exact fdiv128 z | (simp;done) | exact j1 | exact j3 | exact ⟨k,hk1,hk2,j2,hr2⟩ | apply And.intro)
  ·simp [b3,b4];omega
  ·have hb:Nat.blt z 128=true:=by rw [Nat.blt_eq];exact h
   have hr2:putG 10 z0=s++[UInt8.ofNat z]:=by rw [hr];simp [putG,hb]
   have:z%128=z:=Nat.mod_eq_of_lt h
   rw [hr2,this]
   repeat' (first | exact trivial | apply EqN.mk | apply EqI.mk | with_reducible rfl | exact rfl | (simp;done) | apply And.intro)
  ·exact absurd h h2
theorem zig {n:Int} (h1 : -4611686018427387903≤n) (h2:n≤4611686018427387903):
  Int.emod (Int.ofNat (Nat.xor (Int.toNat (Int.emod (Int.emod (Int.emod n 18446744073709551616*2) 18446744073709551616) 18446744073709551616)) (Int.toNat (Int.emod (Int.emod (Int.fdiv n 9223372036854775808) 18446744073709551616) 18446744073709551616)))) 18446744073709551616=Int.ofNat (zN n):=by
 have key : ∀ m:Nat,m<18446744073709551616→Int.emod (Int.ofNat m) 18446744073709551616=Int.ofNat m:=fun m hm=>Int.emod_eq_of_lt (by show (0:Int)≤(m:Int);omega) (by show (m:Int)<_;omega)
 have hf:Int.fdiv n 9223372036854775808=if 0≤n then 0 else -1:=by
  rw [Int.fdiv_eq_ediv_of_nonneg _ (by omega)]
  split<;>omega
 rw [hf]
 unfold zN
 by_cases hn:0≤n
 ·rw [if_pos hn,if_pos hn]
  have e1:Int.toNat (Int.emod (Int.emod (Int.emod n 18446744073709551616*2) 18446744073709551616) 18446744073709551616)=2*n.toNat:=by
   show ((n%18446744073709551616*2)%18446744073709551616%18446744073709551616).toNat=_
   omega
  have e2:Int.toNat (Int.emod (Int.emod 0 18446744073709551616) 18446744073709551616)=0:=rfl
  rw [e1,e2,show Nat.xor (2*n.toNat) 0=2*n.toNat from Nat.xor_zero _]
  exact key _ (by omega)
 ·rw [if_neg hn,if_neg hn]
  have e1:Int.toNat (Int.emod (Int.emod (Int.emod n 18446744073709551616*2) 18446744073709551616) 18446744073709551616)=18446744073709551616-2*(-n).toNat:=by
   show ((n%18446744073709551616*2)%18446744073709551616%18446744073709551616).toNat=_
   omega
  have e2:Int.toNat (Int.emod (Int.emod (-1) 18446744073709551616) 18446744073709551616)=2^64-1:=rfl
  have e3:Nat.xor (18446744073709551616-2*(-n).toNat) (2^64-1)=2*(-n).toNat-1:=by
   have : ∀ a:Nat,a<2^64→Nat.xor a (2^64-1)=2^64-1-a:=fun a ha=>by
    have h:=BitVec.toNat_not (x:=BitVec.ofNat 64 a)
    have h2:(~~~ BitVec.ofNat 64 a)=BitVec.ofNat 64 a^^^BitVec.allOnes 64:=by rw [BitVec.xor_allOnes]
    rw [h2,BitVec.toNat_xor,BitVec.toNat_allOnes,BitVec.toNat_ofNat,Nat.mod_eq_of_lt ha] at h
    exact h
   rw [this _ (by omega)]
   omega
  rw [e1,e2,e3]
  exact key _ (by omega)
theorem zN_lt {n:Int} (h1 : -4611686018427387903≤n) (h2:n≤4611686018427387903): zN n<18446744073709551616:=by
 unfold zN;split<;>omega
theorem put_ok {n:Int} (h1 : -4611686018427387903≤n) (h2:n≤4611686018427387903): CallGives PP II 123 [.int .i64 n] (AH.blank 12) (.ret (.tup [.str (putF n),.int .i64 0]) (AH.blank 12)):=by
 refine of_kb (ks:=[]) (T:=[(3,16,s207 ([],zN n),e207 (putF n))]) (fun _=>⟨rfl,⟨rfl,rfl⟩,trivial⟩) ((put_vc n [] (putF n) 0 _).mpr (Cond.mk (fun h=>?_) fun _=>Cond.mk (fun h=>?_) fun _=>?_))
 ·simp only [decide_eq_true_eq] at h;omega
 ·simp only [decide_eq_true_eq] at h;omega
 ·repeat' (first | exact put_loop (zN_lt h1 h2) | exact trivial | apply EqN.mk | apply EqI.mk | exact zig h1 h2 | with_reducible rfl | exact rfl | exact Asks.mk (by simp) rfl | apply And.intro)
noncomputable def kPut:Known PP II:=Known.pure 123
 (fun X args kn=>match args with
  | [.int .i64 n]=>X.assert (decide (-4611686018427387903≤n)&&decide (n≤4611686018427387903)) (kn (.tup [.str (putF n),.int .i64 0]))
  | _=>X.fail)
 fun X sem hX args kn h=>by
  split at h
  ·obtain ⟨h1,h2⟩:=hX.assert _ _ h
   simp only [Bool.and_eq_true,decide_eq_true_eq] at h1
   exact ⟨_,h2,fun _=>rfl,fun _=>rfl,put_ok h1.1 h1.2⟩
  ·exact absurd h hX.fail
end Go.Sx
end
section
set_option maxRecDepth 1000000
namespace Go.Sx
open Go
noncomputable def kNoEscape:Known PP II where
 f:=166
 spec X args H kn _:=match args with
  | [a]=>kn a H
  | _=>X.fail
 ok X sem hX args H kn kp h:=by
  split at h
  ·rename_i a
   refine ⟨.ret a H,h,fun c ρ w vs hG hv hr=> .inr ?_⟩
   simp only [VRs] at hv
   obtain ⟨u,us,rfl,h1,rfl⟩:=hv
   refine ⟨u,w,?_,ρ,Ext.refl ρ,hr,h1⟩
   rw [run_callFunc_extern (e:=Extern.AbiNoEscape.same) Go.Proofs.Tryz.func166 (by kernel_rfl) (by kernel_rfl) (by kernel_rfl) (by kernel_rfl)]
   rfl
  ·exact absurd h hX.fail
def atI (l:List Int) (i:Nat): Int:=l.getD i 0
def intsAV (l:List Int): AV:=.fslice l.length 1 (fun i=>[.int .i64 (atI l i)])
def intsF (l:List Int): List UInt8:=l.flatMap putF
def preI (l:List Int) (i:Nat): List UInt8:=intsF (l.take i)
def intsB (l:List Int): Bool:=l.all fun n=>decide (-4611686018427387903≤n)&&decide (n≤4611686018427387903)
noncomputable def t78 (l:List Int) (i:Int): Tr AV:=Tr.ofList [(0,intsAV l),(6,intsAV l),(7,.int .i64 l.length),(8,.int .i64 i),(3,.ptr 12 0 0 0)]
noncomputable def h78 (s:List UInt8): AH:={n:=14,t:=Tr.ofList [(12,.cells [.ptr 12 0 0 0,.own 13 s.length 1] (.ty 153)),(13,.str s (.ty 5))]}
noncomputable def r78 (l:List Int) (i:Int) (s:List UInt8): St:={t:=t78 l i,nt:=20,H:=h78 s,df:=[]}
noncomputable def s78 (l:List Int) (i:Bool×Int×List UInt8): St:=match i.1 with
 | false=>{t:=t78 l 0,nt:=20,H:={n:=13,t:=Tr.ofList [(12,.cells [.nilPtr,.nilSlice] (.ty 153))]},df:=[]}
 | true=>r78 l i.2.1 i.2.2
noncomputable def e78 (l:List Int) (n:Int) (r:List UInt8): GE:=.one (.x 0 (r78 l n r))
theorem ints_step0 (l : List Int) (n : Int) (r : List UInt8) (Q : Prop) : (kr [kNoEscape, kPut] [] 78 3001 13 (s78 l) (fun _ => e78 l n r) (fun i => (true, i.2.1 + 1, i.2.2 ++ putF (atI l i.2.1.toNat))) Q (false, 0, [])) = (Cond (decide (0 < Int.ofNat (List.length l))) (Asks (decide (0 < Int.ofNat (List.length l))) (Asks (decide ((-4611686018427387903 : Int) ≤ atI l 0) && decide (atI l 0 ≤ 4611686018427387903)) (Asks (decide ((0 + List.length (putF (atI l 0))) * 1 ≤ 140737488355328) && true) (Asks (inR .i64 1) (EqB (putF (atI l 0)) (putF (atI l 0)) (EqN (List.length (putF (atI l 0))) (List.length (putF (atI l 0))) (EqI (Int.ofNat (List.length l)) (Int.ofNat (List.length l)) (EqN (List.length l) (List.length l) ((RowsLe (List.length l) (fun i => [AV.int .i64 (atI l i)]) fun i => [AV.int .i64 (atI l i)]) ∧ EqN (List.length l) (List.length l) ((RowsLe (List.length l) (fun i => [AV.int .i64
 (atI l i)]) fun i => [AV.int .i64 (atI l i)]) ∧ Q)))))))))) (EqB r [] False)) := by kernel_rfl
theorem ints_step1 (l : List Int) (n : Int) (r : List UInt8) (i : Int) (s : List UInt8) (Q : Prop) : (kr [kNoEscape, kPut] [] 78 3001 13 (s78 l) (fun _ => e78 l n r) (fun i => (true, i.2.1 + 1, i.2.2 ++ putF (atI l i.2.1.toNat))) Q (true, i, s)) = (Cond (decide (i < Int.ofNat (List.length l))) (Asks (decide (0 ≤ i) && decide (i < Int.ofNat (List.length l))) (Asks (decide ((-4611686018427387903 : Int) ≤ atI l (Int.toNat i)) && decide (atI l (Int.toNat i) ≤ 4611686018427387903)) (Asks (decide (List.length s ≤ List.length s) && true && true && decide ((List.length s + List.length (putF (atI l (Int.toNat i)))) * 1 ≤ 140737488355328) && (decide (List.length s = List.length s) && true)) (Asks (inR .i64 (i + 1)) (EqB (List.append s (putF (atI l (Int.toNat i)))) (List.append s (putF (atI l (Int.toNat i)))) (EqN (List.length s + List.length (putF (atI l (Int.toNat i)))) (List.length (List.append s
 (putF (atI l (Int.toNat i))))) (EqI (Int.ofNat (List.length l)) (Int.ofNat (List.length l)) (EqN (List.length l) (List.length l) ((RowsLe (List.length l) (fun i => [AV.int .i64 (atI l i)]) fun i => [AV.int .i64 (atI l i)]) ∧ EqI (i + 1) (i + 1) (EqN (List.length l) (List.length l) ((RowsLe (List.length l) (fun i => [AV.int .i64 (atI l i)]) fun i => [AV.int .i64 (atI l i)]) ∧ Q))))))))))) (EqB s r (EqN (List.length s) (List.length r) (EqI (Int.ofNat (List.length l)) (Int.ofNat (List.length l)) (EqN (List.length l) (List.length l) ((RowsLe (List.length l) (fun i => [AV.int .i64 (atI l i)]) fun i => [AV.int .i64 (atI l i)]) ∧ EqI i n (EqN (List.length l) (List.length l) ((RowsLe (List.length l) (fun i => [AV.int .i64 (atI l i)]) fun i => [AV.int .i64 (atI l i)]) ∧ True)))))))) := by kernel_rfl
theorem ints_vc (l : List Int) (n : Int) (r : List UInt8) (Q : AV → Prop) : (kb [kNoEscape, kPut] [(3001, 13, s78 l (false, 0, []), e78 l n r)] 78 [intsAV l] Q) = (LoopAt PP II false (loopOf II 78 3001) 13 (s78 l (false, 0, [])) (e78 l n r) ∧ EqI (Int.ofNat (List.length l)) (Int.ofNat (List.length l)) (EqN (List.length l) (List.length l) ((RowsLe (List.length l) (fun i => [AV.int .i64 (atI l i)]) fun i => [AV.int .i64 (atI l i)]) ∧ EqN (List.length l) (List.length l) ((RowsLe (List.length l) (fun i => [AV.int .i64 (atI l i)]) fun i => [AV.int .i64 (atI l i)]) ∧ Asks (decide (0 < List.length r)) (Asks (decide (List.length r = List.length r) && true) (Asks (decide (Int.ofNat (List.length r) = Int.ofNat (List.length r))) (Asks (decide (Int.toNat (Int.ofNat (List.length r)) = List.length r) && true && true && decide (0 < Int.ofNat (List.length r)) && decide (Int.ofNat (List.length r) ≤
 9223372036854775807) && true) (Q (AV.str r))))))))) := by kernel_rfl
theorem atI_le (σ:Nat→Nat) (l:List Int) (i:Nat): AVs.le σ [.int .i64 (atI l i)] [.int .i64 (atI l i)]:=⟨⟨rfl,rfl⟩,trivial⟩
theorem preI_succ {l:List Int} {i:Nat} (h:i<l.length): preI l i++putF (atI l i)=preI l (i+1):=by
 unfold preI intsF atI
 rw [List.take_add_one,List.getElem?_eq_getElem h,List.flatMap_append]
 simp [List.getD_eq_getElem?_getD,List.getElem?_eq_getElem h]
theorem putG_len : ∀ (f z:Nat),(putG f z).length≤f
 | 0,_=>by simp [putG]
 | f+1,z=>by
  unfold putG
  cases Nat.blt z 128 with
  | true=>simp
  | false=>have:=putG_len f (z/128);simp;omega
theorem putF_len (n:Int): (putF n).length≤10:=putG_len _ _
theorem putF_pos (n:Int): 0<(putF n).length:=by
 unfold putF putG
 cases Nat.blt (zN n) 128<;>simp
theorem preI_len (l:List Int): ∀ i,(preI l i).length≤10*i
 | 0=>by simp [preI,intsF]
 | i+1=>by
  by_cases h:i<l.length
  ·rw [←preI_succ h,List.length_append]
   have:=preI_len l i
   have:=putF_len (atI l i)
   omega
  ·have h2:preI l (i+1)=preI l i:=by unfold preI;rw [List.take_of_length_le (by omega),List.take_of_length_le (by omega)]
   rw [h2]
   have:=preI_len l i
   omega
theorem intsB_at {l:List Int} (h:intsB l=true) (i:Nat): -4611686018427387903≤atI l i∧atI l i≤4611686018427387903:=by
 unfold atI
 by_cases hi:i<l.length
 ·rw [List.getD_eq_getElem?_getD,List.getElem?_eq_getElem hi]
  have:=List.all_eq_true.1 h l[i] (List.getElem_mem hi)
  simpa using this
 ·rw [List.getD_eq_getElem?_getD,List.getElem?_eq_none (by omega)]
  simp
theorem ints_loop {l:List Int} (hl:intsB l=true) (h0:0<l.length) (h1:l.length≤1000000): LoopAt PP II false (loopOf II 78 3001) 13 (s78 l (false,0,[])) (e78 l l.length (intsF l)):=
 LoopAt.of (ι:=Bool×Int×List UInt8) hII [kNoEscape,kPut] (lamT_ok PP II []) 1000 13 (fun i=>(i.1=false→i.2.1=0)∧0≤i.2.1∧i.2.1≤l.length∧i.2.2=preI l i.2.1.toNat) (s78 l) (fun _=>e78 l l.length (intsF l)) (fun i=>(l.length-i.2.1).toNat) (fun i=>(true,i.2.1+1,i.2.2++putF (atI l i.2.1.toNat))) (false,0,[]) rfl
  ⟨fun _=>rfl,Int.le_refl 0,by show (0:Int)≤(l.length:Int);omega,rfl⟩ fun i hi=>by
  obtain ⟨b,i,s⟩:=i
  obtain ⟨hb,hi0,hi,hs⟩:=hi
  change 0≤i at hi0
  change i≤(l.length:Int) at hi
  change s=preI l i.toNat at hs
  have ef:preI l l.length=intsF l:=by unfold preI;rw [List.take_length]
  have goOn:i<(l.length:Int)→(fun i:Bool×Int×List UInt8=>(i.1=false→i.2.1=0)∧0≤i.2.1∧i.2.1≤l.length∧i.2.2=preI l i.2.1.toNat) (true,i+1,s++putF (atI l i.toNat))∧(l.length-(i+1)).toNat<(l.length-i).toNat:=fun hlt=>by
   refine ⟨⟨(fun h=>by cases h),by show 0≤i+1;omega,by show i+1≤(l.length:Int);omega,?_⟩,by omega⟩
   show s++putF (atI l i.toNat)=preI l (i+1).toNat
   have:(i+1).toNat=i.toNat+1:=by omega
   rw [this,hs,preI_succ (by omega)]
  have hat:=intsB_at hl i.toNat
  have hp:=putF_len (atI l i.toNat)
  have hq:=preI_len l i.toNat
  cases b with
  | false=>
   have hb0:i=0:=hb rfl
   subst hb0
   have hs0:s=[]:=hs
   subst hs0
   have hgo:=goOn (by omega)
   refine (ints_step0 l l.length (intsF l) _).mpr (Cond.mk (fun h=>?_) fun h=>?_)
   ·have d:decide ((0+(putF (atI l 0)).length)*1≤140737488355328)=true:=by rw [decide_eq_true_eq];have:=putF_len (atI l 0);omega
    have a:(decide (-4611686018427387903≤atI l 0)&&decide (atI l 0≤4611686018427387903))=true:=by simpa using hat
    repeat' (first | with_reducible exact trivial | with_reducible rfl | with_reducible exact RowsLe.same fun _ _=>atI_le _ _ _ | with_reducible refine EqN.mk ?_ ?_ | with_reducible refine EqI.mk ?_ ?_ | with_reducible refine EqB.mk ?_ ?_ | with_reducible refine Asks.mk ?_ ?_ | with_reducible refine And.intro ?_ ?_)
    ·exact h
    ·exact a
    ·rw [d];rfl
    ·rfl
    ·exact hgo.1.1
    ·exact hgo.1.2.1
    ·exact hgo.1.2.2.1
    ·exact hgo.1.2.2.2
    ·exact hgo.2
   ·simp only [decide_eq_false_iff_not] at h
    exact absurd (by show (0:Int)<(l.length:Int);omega) h
  | true=>
   have hlen:s.length≤10000000:=by rw [hs];omega
   refine (ints_step1 l l.length (intsF l) i s _).mpr (Cond.mk (fun h=>?_) fun h=>?_)
   ·have hlt:i<(l.length:Int):=by simp only [decide_eq_true_eq] at h;exact h
    have hgo:=goOn hlt
    have hR:inR .i64 (i+1)=true:=inR_small (by omega) (by omega)
    have a:(decide (-4611686018427387903≤atI l i.toNat)&&decide (atI l i.toNat≤4611686018427387903))=true:=by simp [hat]
    have c:(decide (0≤i)&&decide (i<Int.ofNat l.length))=true:=by rw [h];simp [hi0]
    have d:decide ((s.length+(putF (atI l i.toNat)).length)*1≤140737488355328)=true:=by rw [decide_eq_true_eq];omega
    repeat' (first | with_reducible exact trivial | with_reducible rfl | with_reducible exact RowsLe.same fun _ _=>atI_le _ _ _ | with_reducible refine EqN.mk ?_ ?_ | with_reducible refine EqI.mk ?_ ?_ | with_reducible refine EqB.mk ?_ ?_ | with_reducible refine Asks.mk ?_ ?_ | with_reducible refine And.intro ?_ ?_)
    ·exact c
    ·exact a
    ·rw [d];simp
    ·exact hR
    ·simp
    ·exact hgo.1.1
    ·exact hgo.1.2.1
    ·exact hgo.1.2.2.1
    ·exact hgo.1.2.2.2
    ·exact hgo.2
   ·have hi2:i=(l.length:Int):=by
     simp only [decide_eq_false_iff_not] at h
     have : ¬ i<(l.length:Int):=h
     omega
    have hs2:s=intsF l:=by rw [hs,hi2,Int.toNat_natCast,ef]
    repeat' (first | with_reducible exact trivial | with_reducible rfl | with_reducible exact RowsLe.same fun _ _=>atI_le _ _ _ | with_reducible refine EqN.mk ?_ ?_ | with_reducible refine EqI.mk ?_ ?_ | with_reducible refine EqB.mk ?_ ?_ | with_reducible refine Asks.mk ?_ ?_ | with_reducible refine And.intro ?_ ?_)
    ·exact hs2
    ·rw [hs2]
    ·exact hi2
theorem ints_ok {l:List Int} (hl:intsB l=true) (h0:0<l.length) (h1:l.length≤1000000): CallGives PP II 78 [intsAV l] (AH.blank 12) (.ret (.str (intsF l)) (AH.blank 12)):=by
 have e:preI l l.length=intsF l:=by unfold preI;rw [List.take_length]
 have hp:0<(preI l l.length).length:=by
  obtain ⟨n,hn⟩: ∃ n,l.length=n+1:=⟨l.length-1,by omega⟩
  rw [hn,←preI_succ (by omega),List.length_append]
  have:=putF_pos (atI l n)
  omega
 have hq:=preI_len l l.length
 rw [e] at hp hq
 refine of_kb (ks:=[kNoEscape,kPut]) (T:=[(3001,13,s78 l (false,0,[]),e78 l l.length (intsF l))]) (fun _=>rfl) ((ints_vc l l.length (intsF l) _).mpr ?_)
 repeat' (first | with_reducible exact trivial | with_reducible rfl | with_reducible exact RowsLe.same fun _ _=>atI_le _ _ _ | with_reducible refine EqN.mk ?_ ?_ | with_reducible refine EqI.mk ?_ ?_ | with_reducible refine EqB.mk ?_ ?_ | with_reducible refine Asks.mk ?_ ?_ | with_reducible refine And.intro ?_ ?_)
 ·exact ints_loop hl h0 h1
 ·simpa using hp
 ·simp
 ·simp
 ·simp;omega
def isInts (n:Nat) (f:Nat→List AV): Bool:=(List.range n).all fun i=>match f i with | [.int .i64 _]=>true | _=>false
def intAt (f:Nat→List AV) (i:Nat): Int:=match f i with | [.int .i64 n]=>n | _=>0
def intsOf (n:Nat) (f:Nat→List AV): List Int:=(List.range n).map (intAt f)
theorem isInts_ok {n:Nat} {f:Nat→List AV} (h:isInts n f=true): AV.le (fun l=>l) (.fslice n 1 f) (intsAV (intsOf n f)):=by
 have hl:(intsOf n f).length=n:=by simp [intsOf]
 refine ⟨hl.symm,rfl,fun i hi=>?_⟩
 have:=List.all_eq_true.1 h i (List.mem_range.2 hi)
 have e:atI (intsOf n f) i=intAt f i:=by
  unfold atI intsOf
  rw [List.getD_eq_getElem?_getD,List.getElem?_map,List.getElem?_range hi]
  rfl
 show AVs.le _ (f i) [.int .i64 (atI (intsOf n f) i)]
 rw [e]
 unfold intAt
 split at this
 ·rename_i x hx;rw [hx];exact ⟨⟨rfl,rfl⟩,trivial⟩
 ·cases this
noncomputable def kInts:Known PP II:=Known.pure 78
 (fun X args kn=>match args with
  | [.fslice n 1 f]=>X.assert (isInts n f&&intsB (intsOf n f)&&Nat.blt 0 n&&Nat.ble n 1000000) (kn (.str (intsF (intsOf n f))))
  | _=>X.fail)
 fun X sem hX args kn h=>by
  split at h
  ·rename_i n f
   obtain ⟨h1,h2⟩:=hX.assert _ _ h
   simp only [Bool.and_eq_true] at h1
   obtain ⟨⟨⟨a1,a2⟩,a3⟩,a4⟩:=h1
   have hl:(intsOf n f).length=n:=by simp [intsOf]
   have b3:0<n:=by rwa [Nat.blt_eq] at a3
   have b4:=Nat.le_of_ble_eq_true a4
   exact ⟨_,h2,fun _=>rfl,fun _=>rfl,(ints_ok a2 (by omega) (by omega)).argsLe ⟨isInts_ok a1,trivial⟩⟩
  ·exact absurd h hX.fail
end Go.Sx
end
