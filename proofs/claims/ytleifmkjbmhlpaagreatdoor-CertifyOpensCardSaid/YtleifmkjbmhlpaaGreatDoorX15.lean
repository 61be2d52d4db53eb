/- CertifyOpens is proved, part 15. -/
import Derived.Test.YtleifmkjbmhlpaaGreatDoorX14
set_option linter.unusedVariables false
set_option linter.unusedSimpArgs false
set_option linter.unusedSectionVars false
section
set_option maxRecDepth 1000000
namespace Go.Sx
open Go
def constAVs:List AV:=Sha.consts.map fun n=> .int .u32 (Int.ofNat n)
def vAV (v:Nat→Int): List AV:=[.int .u32 (v 0),.int .u32 (v 1),.int .u32 (v 2),.int .u32 (v 3),.int .u32 (v 4),.int .u32 (v 5),.int .u32 (v 6),.int .u32 (v 7)]
noncomputable def hAdd (v:Nat→Int): AH:={n:=13,t:=Tr.ofList [(2,.cells constAVs .ro),(12,.cells (vAV v) (.ty 204))]}
noncomputable def h120 (W v u:Nat→Int): AH:={n:=15,t:=Tr.ofList [(2,.cells constAVs .ro),(12,.cells (vAV v) (.ty 204)),(13,.rows 64 1 (wRow W) (.ty 236)),(14,.cells (vAV u) (.ty 204))]}
noncomputable def s120 (W v:Nat→Int) (i:Int×(Nat→Int)): St:={t:=Tr.ofList [(0,.ptr 12 0 0 0),(4,.ptr 13 0 0 0),(5,.ptr 14 0 0 0),(18,.agg constAVs),(19,.int .i64 i.1)],nt:=97,H:=h120 W v i.2,df:=[]}
noncomputable def e120 (v u:Nat→Int): GE:=.one (.x 0 {t:=Tr.ofList [(0,.ptr 12 0 0 0),(5,.ptr 14 0 0 0)],nt:=97,H:={n:=15,t:=Tr.ofList [(2,.cells constAVs .ro),(12,.cells (vAV v) (.ty 204)),(14,.cells (vAV u) (.ty 204))]},df:=[]})
def constI (i:Nat): Int:=pickI constAVs i
def t1I (k w:Int) (u:Nat→Int): Int:=Int.emod (Int.emod (Int.emod (Int.emod (u (7:Nat)+Int.ofNat (mix3 (Int.toNat (u (4:Nat))) (6:Nat) (11:Nat) (25:Nat))) (4294967296:Int)+Int.emod (Int.ofNat (Nat.xor (Int.toNat (Int.emod (Int.emod (Int.ofNat (Nat.land (Int.toNat (Int.emod (u (4:Nat)) (4294967296:Int))) (Int.toNat (Int.emod (u (5:Nat)) (4294967296:Int))))) (4294967296:Int)) (4294967296:Int))) (Int.toNat (Int.emod (Int.emod (Int.ofNat (Nat.land (Int.toNat (Int.emod (Int.emod (Int.ofNat (Nat.xor (4294967295:Nat) (Int.toNat (Int.emod (u (4:Nat)) (4294967296:Int))))) (4294967296:Int)) (4294967296:Int))) (Int.toNat (Int.emod (u (6:Nat)) (4294967296:Int))))) (4294967296:Int)) (4294967296:Int))))) (4294967296:Int)) (4294967296:Int)+k) (4294967296:Int)+w) (4294967296:Int)
def t2I (u:Nat→Int): Int:=Int.emod (Int.ofNat (mix3 (Int.toNat (u (0:Nat))) (2:Nat) (13:Nat) (22:Nat))+Int.emod (Int.ofNat (Nat.xor (Int.toNat (Int.emod (Int.emod (Int.ofNat (Nat.xor (Int.toNat (Int.emod (Int.emod (Int.ofNat (Nat.land (Int.toNat (Int.emod (u (0:Nat)) (4294967296:Int))) (Int.toNat (Int.emod (u (1:Nat)) (4294967296:Int))))) (4294967296:Int)) (4294967296:Int))) (Int.toNat (Int.emod (Int.emod (Int.ofNat (Nat.land (Int.toNat (Int.emod (u (0:Nat)) (4294967296:Int))) (Int.toNat (Int.emod (u (2:Nat)) (4294967296:Int))))) (4294967296:Int)) (4294967296:Int))))) (4294967296:Int)) (4294967296:Int))) (Int.toNat (Int.emod (Int.emod (Int.ofNat (Nat.land (Int.toNat (Int.emod (u (1:Nat)) (4294967296:Int))) (Int.toNat (Int.emod (u (2:Nat)) (4294967296:Int))))) (4294967296:Int)) (4294967296:Int))))) (4294967296:Int)) (4294967296:Int)
def rndI (k w:Int) (u:Nat→Int) (j:Nat): Int:=match j with
 | 0=>Int.emod (t1I k w u+t2I u) 4294967296
 | 1=>u 0
 | 2=>u 1
 | 3=>u 2
 | 4=>Int.emod (u 3+t1I k w u) 4294967296
 | 5=>u 4
 | 6=>u 5
 | 7=>u 6
 | _=>0
def rndsI (W v:Nat→Int): Nat→Nat→Int
 | 0=>v
 | k+1=>rndI (constI k) (W k) (rndsI W v k)
def addI (b v:Nat→Int) (j:Nat): Int:=Int.emod (v j+rndsI (schedI b) v 64 j) 4294967296
def isW (v:Nat→Int): Prop := ∀ j,j<8→0≤v j∧v j<4294967296
theorem add_step (W v u' : Nat → Int) (nxt : Int → (Nat → Int) → (Nat → Int)) (i : Int) (u : Nat → Int) (Q : Prop) : (kr [kMixed] [] 120 3001 15 (s120 W v) (fun _ => e120 v u') (fun i => (i.1 + 1, nxt i.1 i.2)) Q (i, u)) = (let zz1 := (Int.emod (Int.emod (Int.emod (u 7 + Int.ofNat (mix3 (Int.toNat (u 4)) 6 11 25)) 4294967296 + Int.emod (Int.ofNat (Nat.xor (Int.toNat (Int.emod (Int.emod (Int.ofNat (Nat.land (Int.toNat (Int.emod (u 4) 4294967296)) (Int.toNat (Int.emod (u 5) 4294967296)))) 4294967296) 4294967296)) (Int.toNat (Int.emod (Int.emod (Int.ofNat (Nat.land (Int.toNat (Int.emod (Int.emod (Int.ofNat (Nat.xor 4294967295 (Int.toNat (Int.emod (u 4) 4294967296)))) 4294967296) 4294967296)) (Int.toNat (Int.emod (u 6) 4294967296)))) 4294967296) 4294967296)))) 4294967296) 4294967296 + pickI constAVs (Int.toNat i)) 4294967296 + W (Int.toNat i)); (Cond (decide (i < 64)) (Asks (decide (0 ≤ i) &&
 decide (i < 64)) (Asks (decide (0 ≤ u 4) && decide (u 4 < 4294967296) && true && true && true) (Asks (decide (u 7 = u 7)) (Asks (decide (u 5 = u 5)) (Asks (decide (u 6 = u 6)) (Asks (decide (0 ≤ i) && decide (i < 64)) (Asks (decide (Int.toNat i < 64)) (Asks (decide (Int.toNat i < 64)) (Asks (decide (W (Int.toNat i) = W (Int.toNat i))) (Asks (decide (0 ≤ u 0) && decide (u 0 < 4294967296) && true && true && true) (Asks (decide (u 1 = u 1)) (Asks (decide (u 2 = u 2)) (Asks (decide (u 1 = u 1)) (Asks (decide (u 2 = u 2)) (Asks (inR .i64 (i + 1)) (EqI (Int.emod (Int.emod zz1 4294967296 + Int.emod (Int.ofNat (mix3 (Int.toNat (u 0)) 2 13 22) + Int.emod (Int.ofNat (Nat.xor (Int.toNat (Int.emod (Int.emod (Int.ofNat (Nat.xor (Int.toNat (Int.emod (Int.emod (Int.ofNat (Nat.land (Int.toNat (Int.emod (u 0) 4294967296)) (Int.toNat (Int.emod (u 1) 4294967296)))) 4294967296) 4294967296)) (Int.toNat
 (Int.emod (Int.emod (Int.ofNat (Nat.land (Int.toNat (Int.emod (u 0) 4294967296)) (Int.toNat (Int.emod (u 2) 4294967296)))) 4294967296) 4294967296)))) 4294967296) 4294967296)) (Int.toNat (Int.emod (Int.emod (Int.ofNat (Nat.land (Int.toNat (Int.emod (u 1) 4294967296)) (Int.toNat (Int.emod (u 2) 4294967296)))) 4294967296) 4294967296)))) 4294967296) 4294967296) 4294967296) (nxt i u 0) (EqI (u 0) (nxt i u 1) (EqI (u 1) (nxt i u 2) (EqI (u 2) (nxt i u 3) (EqI (Int.emod (u 3 + Int.emod zz1 4294967296) 4294967296) (nxt i u 4) (EqI (u 4) (nxt i u 5) (EqI (u 5) (nxt i u 6) (EqI (u 6) (nxt i u 7) (RowsLe 64 (wRow W) (wRow W) ∧ EqI (v 0) (v 0) (EqI (v 1) (v 1) (EqI (v 2) (v 2) (EqI (v 3) (v 3) (EqI (v 4) (v 4) (EqI (v 5) (v 5) (EqI (v 6) (v 6) (EqI (v 7) (v 7) (EqI (i + 1) (i + 1) Q)))))))))))))))))))))))))))))))) (EqI (u 0) (u' 0) (EqI (u 1) (u' 1) (EqI (u 2) (u' 2) (EqI (u 3) (u' 3) (EqI (u 4) (u'
 4) (EqI (u 5) (u' 5) (EqI (u 6) (u' 6) (EqI (u 7) (u' 7) (EqI (v 0) (v 0) (EqI (v 1) (v 1) (EqI (v 2) (v 2) (EqI (v 3) (v 3) (EqI (v 4) (v 4) (EqI (v 5) (v 5) (EqI (v 6) (v 6) (EqI (v 7) (v 7) True)))))))))))))))))) := by kernel_rfl
theorem add_vc (b v u' v' : Nat → Int) (Q : Prop) : (kbody [kSched] (lamT PP II [(3001, 15, s120 (schedI b) v (0, v), e120 v u')]) 1000 120 [.ptr 12 0 0 0, blkAV b] (hAdd v) (fun a H => ResLq 13 a H (.tup []) (hAdd v') Q) (fun _ _ => False)) = (Asks (bytesOk 64 (bRow b)) (LoopAt PP II false (loopOf II 120 3001) 15 (s120 (schedI b) v (0, v)) (e120 v u') ∧ EqI (v 0) (v 0) (EqI (v 1) (v 1) (EqI (v 2) (v 2) (EqI (v 3) (v 3) (EqI (v 4) (v 4) (EqI (v 5) (v 5) (EqI (v 6) (v 6) (EqI (v 7) (v 7) ((RowsLe 64 (cutRow [AV.int .u32 (schedI (byteOf (bRow b)) 0), AV.int .u32 (schedI (byteOf (bRow b)) 1), AV.int .u32 (schedI (byteOf (bRow b)) 2), AV.int .u32 (schedI (byteOf (bRow b)) 3), AV.int .u32 (schedI (byteOf (bRow b)) 4), AV.int .u32 (schedI (byteOf (bRow b)) 5), AV.int .u32 (schedI (byteOf (bRow b)) 6), AV.int .u32 (schedI (byteOf (bRow b)) 7), AV.int .u32 (schedI (byteOf (bRow b)) 8), AV.int
 .u32 (schedI (byteOf (bRow b)) 9), AV.int .u32 (schedI (byteOf (bRow b)) 10), AV.int .u32 (schedI (byteOf (bRow b)) 11), AV.int .u32 (schedI (byteOf (bRow b)) 12), AV.int .u32 (schedI (byteOf (bRow b)) 13), AV.int .u32 (schedI (byteOf (bRow b)) 14), AV.int .u32 (schedI (byteOf (bRow b)) 15), AV.int .u32 (schedI (byteOf (bRow b)) 16), AV.int .u32 (schedI (byteOf (bRow b)) 17), AV.int .u32 (schedI (byteOf (bRow b)) 18), AV.int .u32 (schedI (byteOf (bRow b)) 19), AV.int .u32 (schedI (byteOf (bRow b)) 20), AV.int .u32 (schedI (byteOf (bRow b)) 21), AV.int .u32 (schedI (byteOf (bRow b)) 22), AV.int .u32 (schedI (byteOf (bRow b)) 23), AV.int .u32 (schedI (byteOf (bRow b)) 24), AV.int .u32 (schedI (byteOf (bRow b)) 25), AV.int .u32 (schedI (byteOf (bRow b)) 26), AV.int .u32 (schedI (byteOf (bRow b)) 27), AV.int .u32 (schedI (byteOf (bRow b)) 28), AV.int .u32 (schedI (byteOf (bRow b)) 29),
 AV.int .u32 (schedI (byteOf (bRow b)) 30), AV.int .u32 (schedI (byteOf (bRow b)) 31), AV.int .u32 (schedI (byteOf (bRow b)) 32), AV.int .u32 (schedI (byteOf (bRow b)) 33), AV.int .u32 (schedI (byteOf (bRow b)) 34), AV.int .u32 (schedI (byteOf (bRow b)) 35), AV.int .u32 (schedI (byteOf (bRow b)) 36), AV.int .u32 (schedI (byteOf (bRow b)) 37), AV.int .u32 (schedI (byteOf (bRow b)) 38), AV.int .u32 (schedI (byteOf (bRow b)) 39), AV.int .u32 (schedI (byteOf (bRow b)) 40), AV.int .u32 (schedI (byteOf (bRow b)) 41), AV.int .u32 (schedI (byteOf (bRow b)) 42), AV.int .u32 (schedI (byteOf (bRow b)) 43), AV.int .u32 (schedI (byteOf (bRow b)) 44), AV.int .u32 (schedI (byteOf (bRow b)) 45), AV.int .u32 (schedI (byteOf (bRow b)) 46), AV.int .u32 (schedI (byteOf (bRow b)) 47), AV.int .u32 (schedI (byteOf (bRow b)) 48), AV.int .u32 (schedI (byteOf (bRow b)) 49), AV.int .u32 (schedI (byteOf (bRow b))
 50), AV.int .u32 (schedI (byteOf (bRow b)) 51), AV.int .u32 (schedI (byteOf (bRow b)) 52), AV.int .u32 (schedI (byteOf (bRow b)) 53), AV.int .u32 (schedI (byteOf (bRow b)) 54), AV.int .u32 (schedI (byteOf (bRow b)) 55), AV.int .u32 (schedI (byteOf (bRow b)) 56), AV.int .u32 (schedI (byteOf (bRow b)) 57), AV.int .u32 (schedI (byteOf (bRow b)) 58), AV.int .u32 (schedI (byteOf (bRow b)) 59), AV.int .u32 (schedI (byteOf (bRow b)) 60), AV.int .u32 (schedI (byteOf (bRow b)) 61), AV.int .u32 (schedI (byteOf (bRow b)) 62), AV.int .u32 (schedI (byteOf (bRow b)) 63)] 1) fun j => [AV.int .u32 (schedI b j)]) ∧ EqI (v 0) (v 0) (EqI (v 1) (v 1) (EqI (v 2) (v 2) (EqI (v 3) (v 3) (EqI (v 4) (v 4) (EqI (v 5) (v 5) (EqI (v 6) (v 6) (EqI (v 7) (v 7) (Asks (inR .i64 1) (Asks (inR .i64 2) (Asks (inR .i64 3) (Asks (inR .i64 4) (Asks (inR .i64 5) (Asks (inR .i64 6) (Asks (inR .i64 7) (Asks (inR .i64 8) (EqI
 (Int.emod (v 0 + u' 0) 4294967296) (v' 0) (EqI (Int.emod (v 1 + u' 1) 4294967296) (v' 1) (EqI (Int.emod (v 2 + u' 2) 4294967296) (v' 2) (EqI (Int.emod (v 3 + u' 3) 4294967296) (v' 3) (EqI (Int.emod (v 4 + u' 4) 4294967296) (v' 4) (EqI (Int.emod (v 5 + u' 5) 4294967296) (v' 5) (EqI (Int.emod (v 6 + u' 6) 4294967296) (v' 6) (EqI (Int.emod (v 7 + u' 7) 4294967296) (v' 7) Q))))))))))))))))))))))))))))))))) := by kernel_rfl
theorem emodW (x:Int): 0≤Int.emod x 4294967296∧Int.emod x 4294967296<4294967296 :=
 ⟨Int.emod_nonneg _ (by decide),Int.emod_lt_of_pos _ (by decide)⟩
theorem rndI_w {k w:Int} {u:Nat→Int} (h:isW u): isW (rndI k w u):=by
 intro j hj
 match j,hj with
 | 0,_=>exact emodW _
 | 1,_=>exact h 0 (by omega)
 | 2,_=>exact h 1 (by omega)
 | 3,_=>exact h 2 (by omega)
 | 4,_=>exact emodW _
 | 5,_=>exact h 4 (by omega)
 | 6,_=>exact h 5 (by omega)
 | 7,_=>exact h 6 (by omega)
 | k+8,hk=>omega
theorem rndsI_w {W v:Nat→Int} (h:isW v): ∀ k,isW (rndsI W v k)
 | 0=>h
 | k+1=>rndI_w (rndsI_w h k)
theorem addI_w {b v:Nat→Int}: isW (addI b v):=fun _ _=>emodW _
theorem rnd0 (k w:Int) (u:Nat→Int): rndI k w u 0=Int.emod (t1I k w u+t2I u) 4294967296:=rfl
theorem rnd4 (k w:Int) (u:Nat→Int): rndI k w u 4=Int.emod (u 3+t1I k w u) 4294967296:=rfl
theorem rnd1 (k w:Int) (u:Nat→Int): rndI k w u 1=u 0:=rfl
theorem rnd2 (k w:Int) (u:Nat→Int): rndI k w u 2=u 1:=rfl
theorem rnd3 (k w:Int) (u:Nat→Int): rndI k w u 3=u 2:=rfl
theorem rnd5 (k w:Int) (u:Nat→Int): rndI k w u 5=u 4:=rfl
theorem rnd6 (k w:Int) (u:Nat→Int): rndI k w u 6=u 5:=rfl
theorem rnd7 (k w:Int) (u:Nat→Int): rndI k w u 7=u 6:=rfl
theorem add_at (b v:Nat→Int) (j:Nat): Int.emod (v j+rndsI (schedI b) v 64 j) 4294967296=addI b v j:=rfl
theorem mixAsk {x:Int} (h:0≤x∧x<4294967296): (decide (0≤x)&&decide (x<4294967296)&&true&&true&&true)=true:=by
 simp only [Bool.and_true,Bool.and_eq_true,decide_eq_true_eq];exact h
theorem add_loop {W v:Nat→Int} (hv:isW v): LoopAt PP II false (loopOf II 120 3001) 15 (s120 W v (0,v)) (e120 v (rndsI W v 64)):=
 LoopAt.of (ι:=Int×(Nat→Int)) hII [kMixed] (lamT_ok PP II []) 1000 15 (fun i=> ∃ k:Nat,k≤64∧i.1=(k:Int)∧i.2=rndsI W v k) (s120 W v) (fun _=>e120 v (rndsI W v 64)) (fun i=>(64-i.1).toNat) (fun i=>(i.1+1,rndI (constI i.1.toNat) (W i.1.toNat) i.2)) (0,v) rfl
  ⟨0,by omega,rfl,rfl⟩ fun i hi=>by
  obtain ⟨i,u⟩:=i
  obtain ⟨k,hk,h1,h2⟩:=hi
  change i=(k:Int) at h1
  change u=rndsI W v k at h2
  have hu:isW u:=by rw [h2];exact rndsI_w hv k
  refine (add_step W v (rndsI W v 64) (fun i u=>rndI (constI i.toNat) (W i.toNat) u) i u _).mpr (Cond.mk (fun h=>?_) fun h=>?_)
  ·simp only [decide_eq_true_eq] at h
   have hk':k<64:=by omega
   have ni:Int.toNat i=k:=by omega
   have m0:=mixAsk (hu 0 (by omega))
   have m4:=mixAsk (hu 4 (by omega))
   have hin:(decide ((0:Int)≤i)&&decide (i<(64:Int)))=true:=by simp only [Bool.and_eq_true,decide_eq_true_eq];omega
   have hin2:decide (Int.toNat i<64)=true:=by simp only [decide_eq_true_eq];omega
   have hr:inR .i64 (i+1)=true:=inR_small (by omega) (by omega)
   have hself : ∀ x:Int,decide (x=x)=true:=fun x=>decide_eq_true rfl
   repeat' (first | with_reducible exact trivial | with_reducible rfl | with_reducible exact RowsLe.same fun _ _=>wRow_le _ _ _ | with_reducible exact RowsLe.same fun _ _=>bRow_le _ _ _ | with_reducible refine EqN.mk ?_ ?_ | with_reducible refine EqI.mk ?_ ?_ | with_reducible refine EqB.mk ?_ ?_ | with_reducible refine Asks.mk ?_ ?_ | with_reducible refine And.intro ?_ ?_)
   all_goals first | with_reducible exact hin | with_reducible exact hin2 | with_reducible exact m0 | with_reducible exact m4 | with_reducible exact hself _ | with_reducible exact hr | (rw [rnd0,t1I,t2I,constI];done) | (rw [rnd4,t1I,constI];done) | with_reducible exact (rnd1 _ _ _).symm | with_reducible exact (rnd2 _ _ _).symm | with_reducible exact (rnd3 _ _ _).symm | with_reducible exact (rnd5 _ _ _).symm | with_reducible exact (rnd6 _ _ _).symm | with_reducible exact (rnd7 _ _ _).symm | skip
   ·refine ⟨k+1,by omega,by show i+1=_;omega,?_⟩
    show rndI _ _ u=_
    rw [ni,h2];rfl
   ·show (64-(i+1)).toNat<(64-i).toNat;omega
  ·simp only [decide_eq_false_iff_not] at h
   have:k=64:=by omega
   subst this
   rw [h2]
   repeat' (first | with_reducible exact trivial | with_reducible rfl | with_reducible exact RowsLe.same fun _ _=>wRow_le _ _ _ | with_reducible exact RowsLe.same fun _ _=>bRow_le _ _ _ | with_reducible refine EqN.mk ?_ ?_ | with_reducible refine EqI.mk ?_ ?_ | with_reducible refine EqB.mk ?_ ?_ | with_reducible refine Asks.mk ?_ ?_ | with_reducible refine And.intro ?_ ?_)
theorem cutW (W:Nat→Int): RowsLe 64 (cutRow (wCells W) 1) (wRow W):=by
 intro i hi σ
 have:cutRow (wCells W) 1 i=[AV.int .u32 (W i)]:=by
  unfold cutRow wCells
  rw [Nat.mul_one,←List.map_drop,←List.map_take]
  have:((List.range 64).drop i).take 1=[i]:=by
   rw [List.drop_eq_getElem_cons (by simpa using hi)]
   simp
  rw [this];rfl
 rw [this]
 exact ⟨⟨rfl,rfl⟩,trivial⟩
theorem bytesOk_of {b:Nat→Int} (h:isB b): bytesOk 64 (bRow b)=true:=List.all_eq_true.2 fun i hi=>by
 have:=h i (List.mem_range.1 hi)
 show (decide _&&decide _)=true
 simp only [Bool.and_eq_true,decide_eq_true_eq];exact this
theorem add_ok {b v:Nat→Int} (hb:isB b) (hv:isW v): CallGives PP II 120 [.ptr 12 0 0 0,blkAV b] (hAdd v) (.ret (.tup []) (hAdd (addI b v))):=by
 refine CallGives.of_heap hII [kSched] (lamT_ok PP II [(3001,15,s120 (schedI b) v (0,v),e120 v (rndsI (schedI b) v 64))]) 1000 ((add_vc b v (rndsI (schedI b) v 64) (addI b v) True).mpr ?_)
 repeat' (first | with_reducible exact trivial | with_reducible rfl | with_reducible exact RowsLe.same fun _ _=>wRow_le _ _ _ | with_reducible exact RowsLe.same fun _ _=>bRow_le _ _ _ | with_reducible refine EqN.mk ?_ ?_ | with_reducible refine EqI.mk ?_ ?_ | with_reducible refine EqB.mk ?_ ?_ | with_reducible refine Asks.mk ?_ ?_ | with_reducible refine And.intro ?_ ?_)
 all_goals first | with_reducible exact bytesOk_of hb | with_reducible exact add_loop hv | with_reducible exact add_at _ _ _ | exact inR_small (by omega) (by omega) | exact cutW (schedI b)
end Go.Sx
end
section
set_option maxRecDepth 1000000
namespace Go.Sx
open Go
def dByte (x:Int) (m:Int): UInt8:=UInt8.ofNat (Int.toNat (Int.emod (Int.fdiv x m) 256))
def dBytes (v:Nat→Int): List UInt8:=[dByte (v 0) 16777216,dByte (v 0) 65536,dByte (v 0) 256,dByte (v 0) 1,dByte (v 1) 16777216,dByte (v 1) 65536,dByte (v 1) 256,dByte (v 1) 1,dByte (v 2) 16777216,dByte (v 2) 65536,dByte (v 2) 256,dByte (v 2) 1,dByte (v 3) 16777216,dByte (v 3) 65536,dByte (v 3) 256,dByte (v 3) 1,dByte (v 4) 16777216,dByte (v 4) 65536,dByte (v 4) 256,dByte (v 4) 1,dByte (v 5) 16777216,dByte (v 5) 65536,dByte (v 5) 256,dByte (v 5) 1,dByte (v 6) 16777216,dByte (v 6) 65536,dByte (v 6) 256,dByte (v 6) 1,dByte (v 7) 16777216,dByte (v 7) 65536,dByte (v 7) 256,dByte (v 7) 1]
theorem dig_vc (v : Nat → Int) (Q : AV → Prop) : (kb [] [] 121 [.agg (vAV v)] Q) = (Asks (decide (0 ≤ Int.emod (Int.fdiv (v 0) 16777216) 256) && decide (Int.emod (Int.fdiv (v 0) 16777216) 256 ≤ 255) && (decide (0 ≤ Int.emod (Int.fdiv (v 0) 65536) 256) && decide (Int.emod (Int.fdiv (v 0) 65536) 256 ≤ 255) && (decide (0 ≤ Int.emod (Int.fdiv (v 0) 256) 256) && decide (Int.emod (Int.fdiv (v 0) 256) 256 ≤ 255) && (decide (0 ≤ Int.emod (Int.fdiv (v 0) 1) 256) && decide (Int.emod (Int.fdiv (v 0) 1) 256 ≤ 255) && (decide (0 ≤ Int.emod (Int.fdiv (v 1) 16777216) 256) && decide (Int.emod (Int.fdiv (v 1) 16777216) 256 ≤ 255) && (decide (0 ≤ Int.emod (Int.fdiv (v 1) 65536) 256) && decide (Int.emod (Int.fdiv (v 1) 65536) 256 ≤ 255) && (decide (0 ≤ Int.emod (Int.fdiv (v 1) 256) 256) && decide (Int.emod (Int.fdiv (v 1) 256) 256 ≤ 255) && (decide (0 ≤ Int.emod (Int.fdiv (v 1) 1) 256) && decide (Int.emod
 (Int.fdiv (v 1) 1) 256 ≤ 255) && (decide (0 ≤ Int.emod (Int.fdiv (v 2) 16777216) 256) && decide (Int.emod (Int.fdiv (v 2) 16777216) 256 ≤ 255) && (decide (0 ≤ Int.emod (Int.fdiv (v 2) 65536) 256) && decide (Int.emod (Int.fdiv (v 2) 65536) 256 ≤ 255) && (decide (0 ≤ Int.emod (Int.fdiv (v 2) 256) 256) && decide (Int.emod (Int.fdiv (v 2) 256) 256 ≤ 255) && (decide (0 ≤ Int.emod (Int.fdiv (v 2) 1) 256) && decide (Int.emod (Int.fdiv (v 2) 1) 256 ≤ 255) && (decide (0 ≤ Int.emod (Int.fdiv (v 3) 16777216) 256) && decide (Int.emod (Int.fdiv (v 3) 16777216) 256 ≤ 255) && (decide (0 ≤ Int.emod (Int.fdiv (v 3) 65536) 256) && decide (Int.emod (Int.fdiv (v 3) 65536) 256 ≤ 255) && (decide (0 ≤ Int.emod (Int.fdiv (v 3) 256) 256) && decide (Int.emod (Int.fdiv (v 3) 256) 256 ≤ 255) && (decide (0 ≤ Int.emod (Int.fdiv (v 3) 1) 256) && decide (Int.emod (Int.fdiv (v 3) 1) 256 ≤ 255) && (decide (0 ≤ Int.emod
 (Int.fdiv (v 4) 16777216) 256) && decide (Int.emod (Int.fdiv (v 4) 16777216) 256 ≤ 255) && (decide (0 ≤ Int.emod (Int.fdiv (v 4) 65536) 256) && decide (Int.emod (Int.fdiv (v 4) 65536) 256 ≤ 255) && (decide (0 ≤ Int.emod (Int.fdiv (v 4) 256) 256) && decide (Int.emod (Int.fdiv (v 4) 256) 256 ≤ 255) && (decide (0 ≤ Int.emod (Int.fdiv (v 4) 1) 256) && decide (Int.emod (Int.fdiv (v 4) 1) 256 ≤ 255) && (decide (0 ≤ Int.emod (Int.fdiv (v 5) 16777216) 256) && decide (Int.emod (Int.fdiv (v 5) 16777216) 256 ≤ 255) && (decide (0 ≤ Int.emod (Int.fdiv (v 5) 65536) 256) && decide (Int.emod (Int.fdiv (v 5) 65536) 256 ≤ 255) && (decide (0 ≤ Int.emod (Int.fdiv (v 5) 256) 256) && decide (Int.emod (Int.fdiv (v 5) 256) 256 ≤ 255) && (decide (0 ≤ Int.emod (Int.fdiv (v 5) 1) 256) && decide (Int.emod (Int.fdiv (v 5) 1) 256 ≤ 255) && (decide (0 ≤ Int.emod (Int.fdiv (v 6) 16777216) 256) && decide (Int.emod
 (Int.fdiv (v 6) 16777216) 256 ≤ 255) && (decide (0 ≤ Int.emod (Int.fdiv (v 6) 65536) 256) && decide (Int.emod (Int.fdiv (v 6) 65536) 256 ≤ 255) && (decide (0 ≤ Int.emod (Int.fdiv (v 6) 256) 256) && decide (Int.emod (Int.fdiv (v 6) 256) 256 ≤ 255) && (decide (0 ≤ Int.emod (Int.fdiv (v 6) 1) 256) && decide (Int.emod (Int.fdiv (v 6) 1) 256 ≤ 255) && (decide (0 ≤ Int.emod (Int.fdiv (v 7) 16777216) 256) && decide (Int.emod (Int.fdiv (v 7) 16777216) 256 ≤ 255) && (decide (0 ≤ Int.emod (Int.fdiv (v 7) 65536) 256) && decide (Int.emod (Int.fdiv (v 7) 65536) 256 ≤ 255) && (decide (0 ≤ Int.emod (Int.fdiv (v 7) 256) 256) && decide (Int.emod (Int.fdiv (v 7) 256) 256 ≤ 255) && (decide (0 ≤ Int.emod (Int.fdiv (v 7) 1) 256) && decide (Int.emod (Int.fdiv (v 7) 1) 256 ≤ 255) && true))))))))))))))))))))))))))))))) && true) (Q (AV.str [UInt8.ofNat (Int.toNat (Int.emod (Int.fdiv (v 0) 16777216) 256)),
 UInt8.ofNat (Int.toNat (Int.emod (Int.fdiv (v 0) 65536) 256)), UInt8.ofNat (Int.toNat (Int.emod (Int.fdiv (v 0) 256) 256)), UInt8.ofNat (Int.toNat (Int.emod (Int.fdiv (v 0) 1) 256)), UInt8.ofNat (Int.toNat (Int.emod (Int.fdiv (v 1) 16777216) 256)), UInt8.ofNat (Int.toNat (Int.emod (Int.fdiv (v 1) 65536) 256)), UInt8.ofNat (Int.toNat (Int.emod (Int.fdiv (v 1) 256) 256)), UInt8.ofNat (Int.toNat (Int.emod (Int.fdiv (v 1) 1) 256)), UInt8.ofNat (Int.toNat (Int.emod (Int.fdiv (v 2) 16777216) 256)), UInt8.ofNat (Int.toNat (Int.emod (Int.fdiv (v 2) 65536) 256)), UInt8.ofNat (Int.toNat (Int.emod (Int.fdiv (v 2) 256) 256)), UInt8.ofNat (Int.toNat (Int.emod (Int.fdiv (v 2) 1) 256)), UInt8.ofNat (Int.toNat (Int.emod (Int.fdiv (v 3) 16777216) 256)), UInt8.ofNat (Int.toNat (Int.emod (Int.fdiv (v 3) 65536) 256)), UInt8.ofNat (Int.toNat (Int.emod (Int.fdiv (v 3) 256) 256)), UInt8.ofNat (Int.toNat
 (Int.emod (Int.fdiv (v 3) 1) 256)), UInt8.ofNat (Int.toNat (Int.emod (Int.fdiv (v 4) 16777216) 256)), UInt8.ofNat (Int.toNat (Int.emod (Int.fdiv (v 4) 65536) 256)), UInt8.ofNat (Int.toNat (Int.emod (Int.fdiv (v 4) 256) 256)), UInt8.ofNat (Int.toNat (Int.emod (Int.fdiv (v 4) 1) 256)), UInt8.ofNat (Int.toNat (Int.emod (Int.fdiv (v 5) 16777216) 256)), UInt8.ofNat (Int.toNat (Int.emod (Int.fdiv (v 5) 65536) 256)), UInt8.ofNat (Int.toNat (Int.emod (Int.fdiv (v 5) 256) 256)), UInt8.ofNat (Int.toNat (Int.emod (Int.fdiv (v 5) 1) 256)), UInt8.ofNat (Int.toNat (Int.emod (Int.fdiv (v 6) 16777216) 256)), UInt8.ofNat (Int.toNat (Int.emod (Int.fdiv (v 6) 65536) 256)), UInt8.ofNat (Int.toNat (Int.emod (Int.fdiv (v 6) 256) 256)), UInt8.ofNat (Int.toNat (Int.emod (Int.fdiv (v 6) 1) 256)), UInt8.ofNat (Int.toNat (Int.emod (Int.fdiv (v 7) 16777216) 256)), UInt8.ofNat (Int.toNat (Int.emod (Int.fdiv (v 7)
 65536) 256)), UInt8.ofNat (Int.toNat (Int.emod (Int.fdiv (v 7) 256) 256)), UInt8.ofNat (Int.toNat (Int.emod (Int.fdiv (v 7) 1) 256))]))) := by kernel_rfl
theorem byteAsk (x:Int): (decide (0≤Int.emod x 256)&&decide (Int.emod x 256≤255))=true:=by
 have h1:0≤Int.emod x 256:=Int.emod_nonneg _ (by decide)
 have h2:Int.emod x 256<256:=Int.emod_lt_of_pos _ (by decide)
 simp only [Bool.and_eq_true,decide_eq_true_eq]
 exact ⟨h1,by omega⟩
theorem dig_ok (v:Nat→Int): CallGives PP II 121 [.agg (vAV v)] (AH.blank 12) (.ret (.str (dBytes v)) (AH.blank 12)):=by
 refine of_kb (ks:=[]) (T:=[]) (fun _=>rfl) ((dig_vc v _).mpr (Asks.mk ?_ ?_))
 ·simp only [byteAsk,Bool.and_true,Bool.true_and,Bool.and_self]
 ·rfl
def wordsOk (cs:List AV): Bool:=match cs with
 | [.int .u32 a,.int .u32 b,.int .u32 c,.int .u32 d,.int .u32 e,.int .u32 f,.int .u32 g,.int .u32 h]=>
  [a,b,c,d,e,f,g,h].all fun x=>decide (0≤x)&&decide (x<4294967296)
 | _=>false
theorem wordsOk_eq {cs:List AV} (h:wordsOk cs=true): cs=vAV (pickI cs)∧isW (pickI cs):=by
 unfold wordsOk at h
 split at h
 ·rename_i a b c d e f g i
  refine ⟨rfl,fun j hj=>?_⟩
  have q : ∀ x∈[a,b,c,d,e,f,g,i],0≤x∧x<4294967296:=fun x hx=>by
   have:=List.all_eq_true.1 h x hx
   simpa only [Bool.and_eq_true,decide_eq_true_eq] using this
  match j,hj with
  | 0,_=>exact q a (by simp)
  | 1,_=>exact q b (by simp)
  | 2,_=>exact q c (by simp)
  | 3,_=>exact q d (by simp)
  | 4,_=>exact q e (by simp)
  | 5,_=>exact q f (by simp)
  | 6,_=>exact q g (by simp)
  | 7,_=>exact q i (by simp)
  | k+8,hk=>omega
 ·cases h
noncomputable def kDig:Known PP II:=Known.pure 121
 (fun X args kn=>match args with
  | [.agg cs]=>X.assert (wordsOk cs) (kn (.str (dBytes (pickI cs))))
  | _=>X.fail)
 fun X sem hX args kn h=>by
  split at h
  ·rename_i cs
   obtain ⟨h1,h2⟩:=hX.assert _ _ h
   obtain ⟨e,_⟩:=wordsOk_eq h1
   refine ⟨_,h2,fun σ=>rfl,fun σ=>?_,?_⟩
   ·rw [e];rfl
   ·rw [e];exact dig_ok _
  ·exact absurd h hX.fail
theorem CallGives.fzArg2 {P:Program} {I:Info} {f:FuncId} {p x x':AV} {H H':AH} {o:CO} (hf:FrzGives x H x' H') (h:CallGives P I f [p,x'] H' o): CallGives P I f [p,x] H o:=by
 intro c ρ w vs hG hv hr
 obtain ⟨u,us,rfl,g1,g2⟩:=(by simpa only [VRs] using hv : ∃ u us,vs=u::us∧VR ρ p u∧VRs ρ [x] us)
 obtain ⟨z,zs,rfl,g3,g4⟩:=(by simpa only [VRs] using g2 : ∃ z zs,us=z::zs∧VR ρ x z∧VRs ρ [] zs)
 obtain ⟨ρ1,h1,h2,h3⟩:=hf.2 c ρ w z hr g3
 have post : ∀ e w',o.post c ρ1 e w'→o.post c ρ e w':=fun e w' hp=>CO.post_ext h1 hp
 have hv':VRs ρ1 [p,x'] (u::z::zs):=VRs.cons_iff.2 ⟨VR.ext h1 _ _ g1,VRs.cons_iff.2 ⟨VR.ext (Ext.of_bare ρ1) _ _ h3,by simpa only [VRs] using g4⟩⟩
 rcases h c ρ1 w _ hG hv' h2 with ⟨k1,k2⟩ | ⟨v,w',k1,k2⟩
 ·exact .inl ⟨k1,k2.mono post⟩
 ·exact .inr ⟨v,w',k1,post _ _ k2⟩
theorem add_any {H:AH} {l:Nat} {b v:Nat→Int} (hG:12≤l) (hl:l<H.n) (h2:H.get 2= .cells constAVs .ro) (hv:H.get l= .cells (vAV v) (.ty 204)) (hb:isB b) (hw:isW v):
  CallGives PP II 120 [.ptr l 0 0 0,blkAV b] H (.ret (.tup []) (H.set l (.cells (vAV (addI b v)) (.ty 204)))):=by
 have hc : ∀ σ,(ABlk.cells constAVs .ro).ren σ= .cells constAVs .ro:=fun σ=>by
  show ABlk.cells (AVs.ren σ constAVs) .ro=_
  rfl
 have g2 : ∀ v,(hAdd v).get 2= .cells constAVs .ro:=fun v=>rfl
 have g12 : ∀ v,(hAdd v).get 12= .cells (vAV v) (.ty 204):=fun v=>rfl
 have hset:(hAdd v).set 12 (.cells (vAV (addI b v)) (.ty 204))=hAdd (addI b v):=rfl
 have h:=add_ok hb hw
 rw [←hset] at h
 have dead : ∀ i,i≠2→i≠12→(hAdd v).get i= .dead:=fun i e1 e2=>by
  show AH.get {n:=13,t:=Tr.ofList [(2,_),(12,_)]} i=_
  simp only [AH.get,Tr.ofList,List.foldl,Tr.get_set,Tr.get_e]
  simp [e1,e2]
 refine CallGives.lift1g (I:=II) (args:=[.ptr 12 0 0 0,blkAV b]) (args':=[.ptr l 0 0 0,blkAV b]) (a:=.tup []) (H0:=hAdd v) h rfl (fun i hi=>?_) (fun i hi hd=>?_) hG hl (hv.trans (g12 v).symm) (fun σ=>?_) (fun σ=>rfl) (fun σ e=>?_) (fun σ e=>rfl) (fun e=>?_)
 ·have hi:13≤i:=hi
  exact dead i (by omega) (by omega)
 ·have hi:i<12:=hi
  by_cases e:i=2
  ·rw [e];exact ⟨h2.trans (g2 v).symm,hc⟩
  ·exact absurd (dead i e (by omega)) hd
 ·show ((hAdd v).get 12).ren σ=(hAdd v).get 12
  rw [g12];rfl
 ·have e:σ 12=l:=e
  show [AV.ptr (σ 12) 0 0 0,blkAV b]=_
  rw [e]
 ·have e:(hAdd v).get 12= .dead:=e
  rw [g12] at e;cases e
noncomputable def kAdd:Known PP II where
 f:=120
 spec X args H kn _:=match args with
  | [.ptr l 0 0 0,x]=>frz X 100000 x H fun x' H'=>match x',H'.get l with
   | .fslice n 1 f,.cells cs (.ty 204)=>X.assert (decide (n=64)) (X.assert (bytesOk 64 f) (X.assert (wordsOk cs) (X.assert (roInts constAVs (H'.get 2)&&Nat.ble 12 l&&Nat.blt l H'.n) (kn (.tup []) (H'.set l (.cells (vAV (addI (byteOf f) (pickI cs))) (.ty 204)))))))
   | _,_=>X.fail
  | _=>X.fail
 ok X sem hX args H kn kp h:=by
  split at h
  ·rename_i l x
   obtain ⟨x',H',h1,h2⟩:=frz_ok hX _ _ _ _ h
   split at h1
   ·rename_i n f cs hcs
    obtain ⟨e0,k1⟩:=hX.assert _ _ h1
    obtain ⟨e1,k2⟩:=hX.assert _ _ k1
    obtain ⟨e2,k3⟩:=hX.assert _ _ k2
    obtain ⟨e3,k4⟩:=hX.assert _ _ k3
    have e0:n=64:=of_decide_eq_true e0
    subst e0
    simp only [Bool.and_eq_true,Nat.blt_eq] at e3
    obtain ⟨e4,e5⟩:=wordsOk_eq e2
    refine ⟨.ret (.tup []) _,k4,?_⟩
    have hk:=(add_any (b:=byteOf f) (Nat.le_of_ble_eq_true e3.1.2) e3.2 (roInts_eq e3.1.1) (by rw [hcs,←e4]) (fun i hi=>(bytesOk_at e1 hi).2) e5)
    have hk':CallGives PP II 120 [.ptr l 0 0 0,.fslice 64 1 f] H' _:=hk.argsLe ⟨by simp [AV.le],⟨rfl,rfl,fun i hi=>by rw [(bytesOk_at e1 hi).1];exact ⟨⟨rfl,rfl⟩,trivial⟩⟩,trivial⟩
    exact hk'.fzArg2 h2
   ·exact absurd h1 hX.fail
  ·exact absurd h hX.fail
end Go.Sx
end
section
set_option maxRecDepth 1000000
namespace Go.Sx
open Go
noncomputable def HB:AH:={n:=12,t:=Tr.ofList [(2,.cells constAVs .ro)]}
def ivI (j:Nat): Int:=match j with | 0=>0x6a09e667 | 1=>0xbb67ae85 | 2=>0x3c6ef372 | 3=>0xa54ff53a | 4=>0x510e527f | 5=>0x9b05688c | 6=>0x1f83d9ab | 7=>0x5be0cd19 | _=>0
noncomputable def h77 (v:Nat→Int) (l:List UInt8): AH:={n:=17,t:=Tr.ofList [(2,.cells constAVs .ro),(12,.cells (vAV v) (.ty 204)),(16,.str l (.ty 5))]}
noncomputable def s77a (s:List UInt8) (l:List UInt8): St:={t:=Tr.ofList [(0,.str s),(2,.str []),(3,.ptr 12 0 0 0),(4,.own 16 l.length 1)],nt:=40,H:=h77 ivI l,df:=[]}
noncomputable def e77a (s r:List UInt8): GE:=.one (.x 0 (s77a s r))
noncomputable def h77b (l:List UInt8): AH:={n:=18,t:=Tr.ofList [(2,.cells constAVs .ro),(12,.cells (vAV ivI) (.ty 204)),(17,.str l (.ty 5))]}
noncomputable def s77b (s:List UInt8) (i:Int×List UInt8): St:={t:=Tr.ofList [(0,.str s),(2,.str []),(3,.ptr 12 0 0 0),(4,.own 17 i.2.length 1),(5,.int .i64 i.1)],nt:=40,H:=h77b i.2,df:=[]}
noncomputable def e77b (s r:List UInt8): GE:=.one (.x 2 {t:=Tr.ofList [(0,.str s),(2,.str []),(3,.ptr 12 0 0 0),(4,.own 17 r.length 1)],nt:=40,H:=h77b r,df:=[]})
def accB:Bool→Access | true=> .ro | false=> .ty 5
noncomputable def h162 (l:List UInt8) (b:Bool) (v:Nat→Int): AH:={n:=22,t:=Tr.ofList [(2,.cells constAVs .ro),(12,.cells (vAV v) (.ty 204)),(17,.str l (accB b)),(18,.cells [.own 17 l.length 1] (.ty 151)),(19,.cells [.int .i64 64] (.ty 3)),(20,.dfr),(21,.loop .ready none (Tr.ofList [(2,.str []),(3,.ptr 12 0 0 0)]) 40 [35] (rangeAs II 77) (rangeBd II 77) 20)]}
noncomputable def s162 (l:List UInt8) (i:Bool×Int×(Nat→Int)): St:={t:=Tr.ofList [(0,.yield 21),(1,.ptr 18 0 0 0),(2,.ptr 19 0 0 0),(4,.int .i64 i.2.1)],nt:=31,H:=h162 l i.1 i.2.2,df:=[]}
noncomputable def e162 (v:Nat→Int): GE:=.one (.x 0 {t:=.e,nt:=31,H:={n:=22,t:=Tr.ofList [(2,.cells constAVs .ro),(12,.cells (vAV v) (.ty 204)),(20,.dfr),(21,.loop .ready none (Tr.ofList [(2,.str []),(3,.ptr 12 0 0 0)]) 40 [35] (rangeAs II 77) (rangeBd II 77) 20)]},df:=[]})
def lenB (s:List UInt8) (i:Int): UInt8:=UInt8.ofNat (Int.toNat (Int.emod (Int.fdiv ((8:Int)*Int.ofNat (List.length s)) (Int.pow (2:Int) (if Int.toNat ((8:Int)*i)≤(64:Nat) then Int.toNat ((8:Int)*i) else (64:Nat)))) (256:Int)))
def padA (s:List UInt8) (k:Nat): List UInt8:=s++[128]++List.replicate k 0
def padZ (n:Nat): Nat:=(119-n%64)%64
def padB (s l:List UInt8) (k:Nat): List UInt8:=l++(List.range k).map fun j:Nat=>lenB s (7-(j:Int))
def padF (s:List UInt8): List UInt8:=padB s (padA s (padZ s.length)) 8
abbrev blkB (l:List UInt8) (i:Int): Nat→Int:=byteOf fun j=>byteRow l (Int.toNat i+j)
def blksI (l:List UInt8): Nat→Nat→Int
 | 0=>ivI
 | k+1=>addI (blkB l (64*(k:Int))) (pickI (vAV (blksI l k)))
def sumF (s:List UInt8): List UInt8:=dBytes (pickI (vAV (blksI (padF s) ((padF s).length/64))))
theorem sum_stepA (s l r:List UInt8) (Q:Prop): (kr [] [] 77 3004 16 (s77a s) (fun _=>e77a s r) (fun l=>l++[0]) Q l)=(Cond (!decide (Int.tmod (Int.ofNat (List.length l)) 64=56)) (Asks (decide (List.length l≤List.length l)&&true&&true&&decide ((List.length l+1)*1≤140737488355328)&&(decide (List.length l=List.length l)&&true)) (EqB (List.append l [{toBitVec:={toFin:=⟨0,Nat.mod_lt 0 (BitVec.ofNat._proof_1 8)⟩}}]) (List.append l [{toBitVec:={toFin:=⟨0,Nat.mod_lt 0 (BitVec.ofNat._proof_1 8)⟩}}]) (EqB s s (EqN (List.length l+1) (List.length (List.append l [{toBitVec:={toFin:=⟨0,Nat.mod_lt 0 (BitVec.ofNat._proof_1 8)⟩}}])) (EqB [] [] Q))))) (EqB l r (EqB s s (EqN (List.length l) (List.length r) (EqB [] [] True))))):=by kernel_rfl
theorem sum_stepB (s l r : List UInt8) (i : Int) (lenB : Int → UInt8) (Q : Prop) : (kr [] [] 77 6002 17 (s77b s) (fun _ => e77b s r) (fun i => (i.1 - 1, i.2 ++ [lenB i.1])) Q (i, l)) = (Cond (decide (i ≥ 0)) (Asks (inR .i64 (8 * Int.ofNat (List.length s))) (Asks (inR .i64 (8 * i)) (Asks (decide (0 ≤ 8 * i)) (Asks (decide (List.length l ≤ List.length l) && true && true && decide ((List.length l + 1) * 1 ≤ 140737488355328) && (decide (List.length l = List.length l) && (decide (0 ≤ Int.emod (Int.fdiv (8 * Int.ofNat (List.length s)) (Int.pow 2 (if Int.toNat (8 * i) ≤ 64 then Int.toNat (8 * i) else 64))) 256) && decide (Int.emod (Int.fdiv (8 * Int.ofNat (List.length s)) (Int.pow 2 (if Int.toNat (8 * i) ≤ 64 then Int.toNat (8 * i) else 64))) 256 ≤ 255) && true))) (Asks (inR .i64 (i - 1)) (EqB (List.append l [UInt8.ofNat (Int.toNat (Int.emod (Int.fdiv (8 * Int.ofNat (List.length s)) (Int.pow 2
 (if Int.toNat (8 * i) ≤ 64 then Int.toNat (8 * i) else 64))) 256))]) (List.append l [lenB i]) (EqI (i - 1) (i - 1) (EqB s s (EqN (List.length l + 1) (List.length (List.append l [lenB i])) (EqB [] [] Q)))))))))) (EqB l r (EqB s s (EqN (List.length l) (List.length r) (EqB [] [] True))))) := by kernel_rfl
theorem sum_step0 (l : List UInt8) (i : Int) (v r : Nat → Int) (nxt : Int → (Nat → Int) → Nat → Int) (Q : Prop) : (kr [kAdd] [] 162 1004 22 (s162 l) (fun _ => e162 r) (fun i => (true, i.2.1 + 64, nxt i.2.1 i.2.2)) Q (false, i, v)) = (let zz1 := (i + if Int.ofNat (Int.toNat (Int.ofNat (List.length l) - i)) < 64 then Int.ofNat (Int.toNat (Int.ofNat (List.length l) - i)) else 64); (Cond (decide (i < Int.ofNat (List.length l))) (Asks (decide (0 ≤ i) && decide (i ≤ Int.ofNat (List.length l)) && decide (Int.ofNat (List.length l) ≤ Int.ofNat (List.length l)) && decide (0 < List.length l)) (Asks (inR .i64 zz1) (Asks (inR .i64 zz1) (Asks (decide (0 ≤ i) && decide (i ≤ i + if Int.ofNat (Int.toNat (Int.ofNat (List.length l) - i)) < 64 then Int.ofNat (Int.toNat (Int.ofNat (List.length l) - i)) else 64) && decide (zz1 ≤ i + if Int.ofNat (Int.toNat (Int.ofNat (List.length l) - i)) < 64 then Int.ofNat
 (Int.toNat (Int.ofNat (List.length l) - i)) else 64) && decide (zz1 ≤ Int.ofNat (List.length l)) && decide (0 < List.length l)) (Asks (decide (Int.toNat i + Int.toNat (zz1 - i) ≤ List.length l)) (Asks (decide (Int.toNat (zz1 - i) = 64)) (Asks (bytesOk 64 fun i_1 => byteRow l (Int.toNat i + i_1)) (Asks (wordsOk (vAV v)) (Asks (inR .i64 (i + 64)) (SameCode (rangeAs II 77) (rangeAs II 77) ∧ SameCode (rangeBd II 77) (rangeBd II 77) ∧ EqB [] [] (EqN (List.length l) (List.length l) (EqB l l (EqI (addI (byteOf fun i_1 => byteRow l (Int.toNat i + i_1)) (pickI (vAV v)) 0) (nxt i v 0) (EqI (addI (byteOf fun i_1 => byteRow l (Int.toNat i + i_1)) (pickI (vAV v)) 1) (nxt i v 1) (EqI (addI (byteOf fun i_1 => byteRow l (Int.toNat i + i_1)) (pickI (vAV v)) 2) (nxt i v 2) (EqI (addI (byteOf fun i_1 => byteRow l (Int.toNat i + i_1)) (pickI (vAV v)) 3) (nxt i v 3) (EqI (addI (byteOf fun i_1 => byteRow l
 (Int.toNat i + i_1)) (pickI (vAV v)) 4) (nxt i v 4) (EqI (addI (byteOf fun i_1 => byteRow l (Int.toNat i + i_1)) (pickI (vAV v)) 5) (nxt i v 5) (EqI (addI (byteOf fun i_1 => byteRow l (Int.toNat i + i_1)) (pickI (vAV v)) 6) (nxt i v 6) (EqI (addI (byteOf fun i_1 => byteRow l (Int.toNat i + i_1)) (pickI (vAV v)) 7) (nxt i v 7) (EqI (i + 64) (i + 64) Q))))))))))))))))))))) (SameCode (rangeAs II 77) (rangeAs II 77) ∧ SameCode (rangeBd II 77) (rangeBd II 77) ∧ EqB [] [] (EqI (v 0) (r 0) (EqI (v 1) (r 1) (EqI (v 2) (r 2) (EqI (v 3) (r 3) (EqI (v 4) (r 4) (EqI (v 5) (r 5) (EqI (v 6) (r 6) (EqI (v 7) (r 7) True))))))))))) := by kernel_rfl
theorem sum_step1 (l : List UInt8) (i : Int) (v r : Nat → Int) (nxt : Int → (Nat → Int) → Nat → Int) (Q : Prop) : (kr [kAdd] [] 162 1004 22 (s162 l) (fun _ => e162 r) (fun i => (true, i.2.1 + 64, nxt i.2.1 i.2.2)) Q (true, i, v)) = (let zz1 := (i + if Int.ofNat (Int.toNat (Int.ofNat (List.length l) - i)) < 64 then Int.ofNat (Int.toNat (Int.ofNat (List.length l) - i)) else 64); (Cond (decide (i < Int.ofNat (List.length l))) (Asks (decide (0 ≤ i) && decide (i ≤ Int.ofNat (List.length l)) && decide (Int.ofNat (List.length l) ≤ Int.ofNat (List.length l)) && decide (0 < List.length l)) (Asks (inR .i64 zz1) (Asks (inR .i64 zz1) (Asks (decide (0 ≤ i) && decide (i ≤ i + if Int.ofNat (Int.toNat (Int.ofNat (List.length l) - i)) < 64 then Int.ofNat (Int.toNat (Int.ofNat (List.length l) - i)) else 64) && decide (zz1 ≤ i + if Int.ofNat (Int.toNat (Int.ofNat (List.length l) - i)) < 64 then Int.ofNat
 (Int.toNat (Int.ofNat (List.length l) - i)) else 64) && decide (zz1 ≤ Int.ofNat (List.length l)) && decide (0 < List.length l)) (Asks (decide (Int.toNat i + Int.toNat (zz1 - i) ≤ List.length l)) (Asks (decide (Int.toNat (zz1 - i) = 64)) (Asks (bytesOk 64 fun i_1 => byteRow l (Int.toNat i + i_1)) (Asks (wordsOk (vAV v)) (Asks (inR .i64 (i + 64)) (SameCode (rangeAs II 77) (rangeAs II 77) ∧ SameCode (rangeBd II 77) (rangeBd II 77) ∧ EqB [] [] (EqN (List.length l) (List.length l) (EqB l l (EqI (addI (byteOf fun i_1 => byteRow l (Int.toNat i + i_1)) (pickI (vAV v)) 0) (nxt i v 0) (EqI (addI (byteOf fun i_1 => byteRow l (Int.toNat i + i_1)) (pickI (vAV v)) 1) (nxt i v 1) (EqI (addI (byteOf fun i_1 => byteRow l (Int.toNat i + i_1)) (pickI (vAV v)) 2) (nxt i v 2) (EqI (addI (byteOf fun i_1 => byteRow l (Int.toNat i + i_1)) (pickI (vAV v)) 3) (nxt i v 3) (EqI (addI (byteOf fun i_1 => byteRow l
 (Int.toNat i + i_1)) (pickI (vAV v)) 4) (nxt i v 4) (EqI (addI (byteOf fun i_1 => byteRow l (Int.toNat i + i_1)) (pickI (vAV v)) 5) (nxt i v 5) (EqI (addI (byteOf fun i_1 => byteRow l (Int.toNat i + i_1)) (pickI (vAV v)) 6) (nxt i v 6) (EqI (addI (byteOf fun i_1 => byteRow l (Int.toNat i + i_1)) (pickI (vAV v)) 7) (nxt i v 7) (EqI (i + 64) (i + 64) Q))))))))))))))))))))) (SameCode (rangeAs II 77) (rangeAs II 77) ∧ SameCode (rangeBd II 77) (rangeBd II 77) ∧ EqB [] [] (EqI (v 0) (r 0) (EqI (v 1) (r 1) (EqI (v 2) (r 2) (EqI (v 3) (r 3) (EqI (v 4) (r 4) (EqI (v 5) (r 5) (EqI (v 6) (r 6) (EqI (v 7) (r 7) True))))))))))) := by kernel_rfl
theorem sum_vc (s r1 r2 r : List UInt8) (v : Nat → Int) : (kbody [kAdd, kDig] (lamT PP II [(3004, 16, s77a s (padA s 0), e77a s r1), (6002, 17, s77b s (7, r1), e77b s r2), (1004, 22, s162 r2 (false, 0, ivI), e162 v)]) 1000 77 [.str s] HB (fun a H => ResLq HB.n a H (.str r) HB True) (fun _ _ => False)) = (Asks (decide (0 + List.length s ≤ List.length s) && true && true && decide ((List.length s + 1) * 1 ≤ 140737488355328) && (decide (List.length s = List.length s) && true)) (LoopAt PP II false (loopOf II 77 3004) 16 (s77a s (padA s 0)) (e77a s r1) ∧ EqB (List.append s [{ toBitVec := { toFin := ⟨128, Nat.mod_lt 128 (BitVec.ofNat._proof_1 8)⟩ } }]) (padA s 0) (EqB s s (EqN (List.length s + 1) (List.length (padA s 0)) (EqB [] [] (LoopAt PP II false (loopOf II 77 6002) 17 (s77b s (7, r1)) (e77b s r2) ∧ EqB r1 r1 (EqB s s (EqN (List.length r1) (List.length r1) (EqB [] [] (LoopAt PP II false
 (loopOf II 162 1004) 22 (s162 r2 (false, 0, ivI)) (e162 v) ∧ SameCode (rangeAs II 77) (rangeAs II 77) ∧ SameCode (rangeBd II 77) (rangeBd II 77) ∧ EqB [] [] (EqN (List.length r2) (List.length r2) (EqB r2 r2 (Asks (wordsOk [AV.int .u32 (v 0), AV.int .u32 (v 1), AV.int .u32 (v 2), AV.int .u32 (v 3), AV.int .u32 (v 4), AV.int .u32 (v 5), AV.int .u32 (v 6), AV.int .u32 (v 7)]) (EqB (dBytes (pickI [AV.int .u32 (v 0), AV.int .u32 (v 1), AV.int .u32 (v 2), AV.int .u32 (v 3), AV.int .u32 (v 4), AV.int .u32 (v 5), AV.int .u32 (v 6), AV.int .u32 (v 7)])) r True)))))))))))))) := by kernel_rfl
theorem sameCode (c:Code): SameCode c c:=rfl
theorem lenAsk0 {n:Nat} (h:n≤1000000): (decide (0+n≤n)&&true&&true&&decide ((n+1)*1≤140737488355328)&&(decide (n=n)&&true))=true:=by
 rw [decide_eq_true (show 0+n≤n by omega),decide_eq_true (show (n+1)*1≤140737488355328 by omega),decide_eq_true (rfl:n=n)];rfl
theorem padZ_step {n k:Nat} (hk:k≤padZ n): (n+1+k)%64=56↔k=padZ n:=by
 unfold padZ at*
 omega
theorem padA_len (s:List UInt8) (k:Nat): (padA s k).length=s.length+1+k:=by simp [padA];omega
theorem padA_succ (s:List UInt8) (k:Nat): padA s k++[0]=padA s (k+1):=by
 unfold padA
 rw [List.append_assoc,←List.replicate_succ']
theorem tmod64 (n:Nat): Int.tmod (Int.ofNat n) 64=((n%64:Nat): Int):=rfl
theorem lenAsk {n:Nat} (h:n≤1000000): (decide (n≤n)&&true&&true&&decide ((n+1)*1≤140737488355328)&&(decide (n=n)&&true))=true:=by
 rw [decide_eq_true (Nat.le_refl n),decide_eq_true (show (n+1)*1≤140737488355328 by omega),decide_eq_true (rfl:n=n)];rfl
theorem lenAsk2 {n:Nat} {x:Int} (h:n≤1000000): (decide (n≤n)&&true&&true&&decide ((n+1)*1≤140737488355328)&&(decide (n=n)&&(decide (0≤Int.emod x 256)&&decide (Int.emod x 256≤255)&&true)))=true:=by
 rw [byteAsk,decide_eq_true (Nat.le_refl n),decide_eq_true (show (n+1)*1≤140737488355328 by omega),decide_eq_true (rfl:n=n)];rfl
theorem sumA_loop {s:List UInt8} (hs:s.length≤900000): LoopAt PP II false (loopOf II 77 3004) 16 (s77a s (padA s 0)) (e77a s (padA s (padZ s.length))):=
 LoopAt.of (ι:=List UInt8) hII [] (lamT_ok PP II []) 1000 16 (fun l=> ∃ k,k≤padZ s.length∧l=padA s k) (s77a s) (fun _=>e77a s (padA s (padZ s.length))) (fun l=>s.length+1+padZ s.length-l.length) (fun l=>l++[0]) (padA s 0) rfl
  ⟨0,Nat.zero_le _,rfl⟩ fun l hl=>by
  obtain ⟨k,hk,rfl⟩:=hl
  have hz:padZ s.length<64:=Nat.mod_lt _ (by omega)
  refine (sum_stepA s (padA s k) (padA s (padZ s.length)) _).mpr ?_
  have hlen:=padA_len s k
  have e0:Int.tmod (Int.ofNat (List.length (padA s k))) 64=(((s.length+1+k)%64:Nat): Int):=by rw [tmod64,hlen]
  rw [e0]
  refine Cond.mk (fun h=>?_) fun h=>?_
  ·simp only [Bool.not_eq_true',decide_eq_false_iff_not] at h
   have hne:k≠padZ s.length:=fun e=>h (by have:=(padZ_step hk).2 e;omega)
   refine Asks.mk (lenAsk (by omega)) (EqB.mk rfl (EqB.mk rfl (EqN.mk ?_ (EqB.mk rfl ⟨⟨k+1,by omega,padA_succ s k⟩,?_,rfl⟩))))
   ·show _=(padA s k++[0]).length
    simp
   ·show _-(padA s k++[0]).length<_
    rw [padA_succ,padA_len,hlen];omega
  ·simp only [Bool.not_eq_false',decide_eq_true_eq] at h
   have:k=padZ s.length:=(padZ_step hk).1 (by omega)
   subst this
   exact EqB.mk rfl (EqB.mk rfl (EqN.mk rfl (EqB.mk rfl trivial)))
theorem padB_len (s l:List UInt8) (k:Nat): (padB s l k).length=l.length+k:=by simp [padB]
theorem padB_succ (s l:List UInt8) (k:Nat): padB s l k++[lenB s (7-(k:Int))]=padB s l (k+1):=by
 unfold padB
 rw [List.range_succ,List.map_append,List.append_assoc]
 rfl
theorem sumB_loop {s l:List UInt8} (hs:s.length≤900000) (hl:l.length≤990000): LoopAt PP II false (loopOf II 77 6002) 17 (s77b s (7,l)) (e77b s (padB s l 8)):=
 LoopAt.of (ι:=Int×List UInt8) hII [] (lamT_ok PP II []) 1000 17 (fun i=> ∃ k:Nat,k≤8∧i.1=7-(k:Int)∧i.2=padB s l k) (s77b s) (fun _=>e77b s (padB s l 8)) (fun i=>(i.1+1).toNat) (fun i=>(i.1-1,i.2++[lenB s i.1])) (7,l) rfl
  ⟨0,by omega,rfl,(List.append_nil l).symm⟩ fun i hi=>by
  obtain ⟨i,l'⟩:=i
  obtain ⟨k,hk,h1,h2⟩:=hi
  change i=7-(k:Int) at h1
  change l'=padB s l k at h2
  have hlen:l'.length=l.length+k:=by rw [h2,padB_len]
  refine (sum_stepB s l' (padB s l 8) i (lenB s) _).mpr (Cond.mk (fun h=>?_) fun h=>?_)
  ·simp only [decide_eq_true_eq] at h
   have hk:k<8:=by omega
   refine Asks.mk (inR_small (by have:(0:Int)≤Int.ofNat s.length:=Int.natCast_nonneg _;omega) (by have:Int.ofNat s.length=((s.length:Nat): Int):=rfl;omega)) (Asks.mk (inR_small (by omega) (by omega)) (Asks.mk (decide_eq_true (by omega)) (Asks.mk (lenAsk2 (by omega)) (Asks.mk (inR_small (by omega) (by omega)) (EqB.mk rfl (EqI.mk rfl (EqB.mk rfl (EqN.mk ?_ (EqB.mk rfl ⟨⟨k+1,by omega,by show i-1=_;omega,?_⟩,?_,rfl⟩)))))))))
   ·show _=(l'++[lenB s i]).length
    simp
   ·show l'++[lenB s i]=_
    rw [h1,h2,padB_succ]
   ·show (i-1+1).toNat<(i+1).toNat;omega
  ·simp only [decide_eq_false_iff_not] at h
   have:k=8:=by omega
   subst this
   rw [h2]
   exact EqB.mk rfl (EqB.mk rfl (EqN.mk rfl (EqB.mk rfl trivial)))
theorem padF_len (s:List UInt8): (padF s).length=s.length+9+padZ s.length∧(padF s).length%64=0:=by
 unfold padF
 rw [padB_len,padA_len]
 unfold padZ
 omega
theorem wordsOk_of {v:Nat→Int} (h:isW v): wordsOk (vAV v)=true:=by
 refine List.all_eq_true.2 fun x hx=>?_
 have : ∃ j,j<8∧x=v j:=by
  simp only [List.mem_cons,List.not_mem_nil,or_false] at hx
  rcases hx with e | e | e | e | e | e | e | e
  ·exact ⟨0,by omega,e⟩
  ·exact ⟨1,by omega,e⟩
  ·exact ⟨2,by omega,e⟩
  ·exact ⟨3,by omega,e⟩
  ·exact ⟨4,by omega,e⟩
  ·exact ⟨5,by omega,e⟩
  ·exact ⟨6,by omega,e⟩
  ·exact ⟨7,by omega,e⟩
 obtain ⟨j,hj,rfl⟩:=this
 simp only [Bool.and_eq_true,decide_eq_true_eq]
 exact h j hj
theorem ivI_w:isW ivI:=fun j hj=>by
 match j,hj with
 | 0,_ | 1,_ | 2,_ | 3,_ | 4,_ | 5,_ | 6,_ | 7,_=>exact ⟨by decide,by decide⟩
 | k+8,hk=>omega
theorem blksI_w (l:List UInt8): ∀ k,isW (blksI l k)
 | 0=>ivI_w
 | _+1=>addI_w
theorem bytesRow (l:List UInt8) (i:Nat): bytesOk 64 (fun j=>byteRow l (i+j))=true:=List.all_eq_true.2 fun j _=>by
 show (decide (0≤((l.getD (i+j) 0).toNat:Int))&&decide (((l.getD (i+j) 0).toNat:Int)<256))=true
 have:=UInt8.toNat_lt (l.getD (i+j) 0)
 simp only [Bool.and_eq_true,decide_eq_true_eq];omega
theorem sumC_loop {l:List UInt8} (h64:l.length%64=0) (h0:0<l.length) (hl:l.length≤1000000): LoopAt PP II false (loopOf II 162 1004) 22 (s162 l (false,0,ivI)) (e162 (blksI l (l.length/64))):=
 LoopAt.of (ι:=Bool×Int×(Nat→Int)) hII [kAdd] (lamT_ok PP II []) 1000 22 (fun i=> ∃ k:Nat,64*k≤l.length∧i.2.1=64*(k:Int)∧i.2.2=blksI l k) (s162 l) (fun _=>e162 (blksI l (l.length/64))) (fun i=>(l.length-i.2.1).toNat) (fun i=>(true,i.2.1+64,addI (blkB l i.2.1) (pickI (vAV i.2.2)))) (false,0,ivI) rfl
  ⟨0,by omega,rfl,rfl⟩ fun i hi=>by
  obtain ⟨b,i,v⟩:=i
  obtain ⟨k,hk,h1,h2⟩:=hi
  change i=64*(k:Int) at h1
  change v=blksI l k at h2
  have hv:isW v:=by rw [h2];exact blksI_w l k
  have eL:Int.ofNat (List.length l)=(l.length:Int):=rfl
  cases b with
  | false=>
   refine (sum_step0 l i v (blksI l (l.length/64)) (fun i v=>addI (blkB l i) (pickI (vAV v))) _).mpr (Cond.mk (fun h=>?_) fun h=>?_)
   ·simp only [decide_eq_true_eq] at h
    have hk:64*(k+1)≤l.length:=by omega
    have em:(if Int.ofNat (Int.toNat (Int.ofNat (List.length l)-i))<(64:Int) then Int.ofNat (Int.toNat (Int.ofNat (List.length l)-i)) else (64:Int))=64:=by
     rw [if_neg]
     show ¬ ((Int.toNat (Int.ofNat (List.length l)-i): Nat): Int)<64
     omega
    rw [em]
    repeat' (first | with_reducible exact trivial | with_reducible rfl | fail | with_reducible refine EqN.mk ?_ ?_ | with_reducible refine EqI.mk ?_ ?_ | with_reducible refine EqB.mk ?_ ?_ | with_reducible refine Asks.mk ?_ ?_ | with_reducible refine And.intro ?_ ?_)
    all_goals first | with_reducible exact sameCode _ | with_reducible exact wordsOk_of hv | with_reducible exact bytesRow _ _ | (simp only [Bool.and_eq_true,decide_eq_true_eq,eL];omega) | exact inR_small (by omega) (by omega) | skip
    ·exact ⟨k+1,hk,by show i+64=_;omega,by show addI _ _=_;rw [h1,h2];rfl⟩
   ·simp only [decide_eq_false_iff_not] at h
    have:k=l.length/64:=by omega
    subst this
    rw [h2]
    repeat' (first | with_reducible exact trivial | with_reducible rfl | fail | with_reducible refine EqN.mk ?_ ?_ | with_reducible refine EqI.mk ?_ ?_ | with_reducible refine EqB.mk ?_ ?_ | with_reducible refine Asks.mk ?_ ?_ | with_reducible refine And.intro ?_ ?_)
    all_goals exact sameCode _
  | true=>
   refine (sum_step1 l i v (blksI l (l.length/64)) (fun i v=>addI (blkB l i) (pickI (vAV v))) _).mpr (Cond.mk (fun h=>?_) fun h=>?_)
   ·simp only [decide_eq_true_eq] at h
    have hk:64*(k+1)≤l.length:=by omega
    have em:(if Int.ofNat (Int.toNat (Int.ofNat (List.length l)-i))<(64:Int) then Int.ofNat (Int.toNat (Int.ofNat (List.length l)-i)) else (64:Int))=64:=by
     rw [if_neg]
     show ¬ ((Int.toNat (Int.ofNat (List.length l)-i): Nat): Int)<64
     omega
    rw [em]
    repeat' (first | with_reducible exact trivial | with_reducible rfl | fail | with_reducible refine EqN.mk ?_ ?_ | with_reducible refine EqI.mk ?_ ?_ | with_reducible refine EqB.mk ?_ ?_ | with_reducible refine Asks.mk ?_ ?_ | with_reducible refine And.intro ?_ ?_)
    all_goals first | with_reducible exact sameCode _ | with_reducible exact wordsOk_of hv | with_reducible exact bytesRow _ _ | (simp only [Bool.and_eq_true,decide_eq_true_eq,eL];omega) | exact inR_small (by omega) (by omega) | skip
    ·exact ⟨k+1,hk,by show i+64=_;omega,by show addI _ _=_;rw [h1,h2];rfl⟩
   ·simp only [decide_eq_false_iff_not] at h
    have:k=l.length/64:=by omega
    subst this
    rw [h2]
    repeat' (first | with_reducible exact trivial | with_reducible rfl | fail | with_reducible refine EqN.mk ?_ ?_ | with_reducible refine EqI.mk ?_ ?_ | with_reducible refine EqB.mk ?_ ?_ | with_reducible refine Asks.mk ?_ ?_ | with_reducible refine And.intro ?_ ?_)
    all_goals exact sameCode _
theorem sum_ok {s:List UInt8} (hs:s.length≤900000): CallGives PP II 77 [.str s] HB (.ret (.str (sumF s)) HB):=by
 have hp:=padF_len s
 have hz:padZ s.length<64:=Nat.mod_lt _ (by omega)
 have hlen:=padA_len s (padZ s.length)
 have hv:=sum_vc s (padA s (padZ s.length)) (padF s) (sumF s) (blksI (padF s) ((padF s).length/64))
 refine CallGives.of_heap hII [kAdd,kDig] (lamT_ok PP II [(3004,16,s77a s (padA s 0),e77a s (padA s (padZ s.length))),(6002,17,s77b s (7,padA s (padZ s.length)),e77b s (padF s)),(1004,22,s162 (padF s) (false,0,ivI),e162 (blksI (padF s) ((padF s).length/64)))]) 1000 ?_
 rw [hv]
 clear hv
 refine Asks.mk (lenAsk0 (by omega)) ⟨sumA_loop hs,EqB.mk ?_ (EqB.mk rfl (EqN.mk ?_ (EqB.mk rfl ⟨sumB_loop hs (by omega),EqB.mk rfl (EqB.mk rfl (EqN.mk rfl (EqB.mk rfl ⟨sumC_loop hp.2 (by omega) (by omega),sameCode _,sameCode _,EqB.mk rfl (EqN.mk rfl (EqB.mk rfl (Asks.mk ?_ (EqB.mk ?_ trivial))))⟩)))⟩)))⟩
 ·simp [padA]
 ·rw [padA_len]
 ·exact wordsOk_of (blksI_w _ _)
 ·rfl
noncomputable def HBok (H:AH): Bool:=roInts constAVs (H.get 2)
theorem HB_get (i:Nat): HB.get i=if i=2 then .cells constAVs .ro else .dead:=by
 show AH.get {n:=12,t:=Tr.ofList [(2,_)]} i=_
 simp only [AH.get,Tr.ofList,Tr.get_set,Tr.get_e]
 by_cases h:i=2<;>simp [h]
theorem CallGives.onHB {f:FuncId} {args:List AV} {a:AV} {H:AH} (h:CallGives PP II f args HB (.ret a HB)) (hb:HBok H=true) (hargs : ∀ σ,AVs.ren σ args=args) (ha : ∀ σ,a.ren σ=a): CallGives PP II f args H (.ret a H):=by
 refine CallGives.pureG (I:=II) (H0:=HB) h rfl (fun i hi=>?_) (fun i hi hd=>?_) hargs ha
 ·have hi:12≤i:=hi
  rw [HB_get,if_neg (by omega)]
 ·by_cases e:i=2
  ·subst e
   rw [roInts_eq hb]
   exact ⟨rfl,fun σ=>rfl⟩
  ·rw [HB_get,if_neg e] at hd;exact absurd rfl hd
noncomputable def Known.onHB (f:FuncId) (spec:{R:Type}→RI R→List AV→(AV→R)→R)
  (ok : ∀ {R:Type} (X:RI R) (sem:R→Prop),X.Ok sem→ ∀ args kn,sem (spec X args kn)→ ∃ a,sem (kn a)∧(∀ σ,a.ren σ=a)∧(∀ σ,AVs.ren σ args=args)∧CallGives PP II f args HB (.ret a HB)): Known PP II where
 f:=f
 spec X args H kn _:=frzs X 100000 args H fun args' H'=>X.assert (HBok H') (spec X args' fun a=>kn a H')
 ok X sem hX args H kn kp h:=by
  obtain ⟨args',H',h1,h2⟩:=frzs_ok hX _ _ _ _ h
  obtain ⟨h0,h1⟩:=hX.assert _ _ h1
  obtain ⟨a,k1,k2,k3,k4⟩:=ok X sem hX _ _ h1
  exact ⟨.ret a H',k1,(k4.onHB h0 k3 k2).fzArgs h2⟩
noncomputable def kSum:Known PP II:=Known.onHB 77
 (fun X args kn=>match args with
  | [.str s]=>X.assert (Nat.ble s.length 900000) (kn (.str (sumF s)))
  | _=>X.fail)
 fun X sem hX args kn h=>by
  split at h
  ·rename_i s
   obtain ⟨h1,h2⟩:=hX.assert _ _ h
   exact ⟨_,h2,fun _=>rfl,fun _=>rfl,sum_ok (Nat.le_of_ble_eq_true h1)⟩
  ·exact absurd h hX.fail
end Go.Sx
end
section
set_option maxRecDepth 1000000
namespace Go.Sx
open Go
noncomputable abbrev kh (ks:List (Known PP II)) (T:LTab) (f:FuncId) (args:List AV) (Q:AV→Prop): Prop :=
 kbody ks (lamT PP II T) 1000 f args HB (fun a H=>frz RI.prop 100000 a H fun a' H2=>Asks (Nat.ble 12 H2.n&&HBok H2) (Q a')) (fun _ _=>False)
theorem constAVs_le (σ:Nat→Nat): AVs.le σ constAVs constAVs:=by
 unfold constAVs
 generalize Sha.consts=l
 induction l with
 | nil=>trivial
 | cons a l ih=>exact ⟨⟨rfl,rfl⟩,ih⟩
theorem of_kh {ks:List (Known PP II)} {T:LTab} {f:FuncId} {args:List AV} {a':AV} (hle : ∀ σ,AV.le σ a' a') (h:kh ks T f args (fun a=>a=a')): CallGives PP II f args HB (.ret a' HB):=by
 obtain ⟨o,h1,h2⟩:=kbody_ok hII ks (lamT_ok PP II T) 1000 f args HB _ _ h
 cases o with
 | ret a H1=>
  obtain ⟨x,H2,k1,k2⟩:=frz_ok RI.prop_ok _ _ _ _ h1
  obtain ⟨k0,k1⟩:=Asks.and k1
  have k1:x=a':=k1
  subst k1
  simp only [Bool.and_eq_true] at k0
  refine (h2.fzRes k2).le (ResLe.of [] (HeapLe.of (by rfl) rfl rfl rfl k0.1 (allN_iff.2 fun l hl=>?_)) (hle _))
  rw [HB_get]
  by_cases e:l=2
  ·subst e
   rw [if_pos rfl]
   have e2:sig HB.n [] H2.n 2=2:=rfl
   have:=Nat.le_of_ble_eq_true k0.1
   show if sig HB.n [] H2.n 2<H2.n then ABlk.le (sig HB.n [] H2.n) (H2.get (sig HB.n [] H2.n 2)) (ABlk.cells constAVs Access.ro) else _
   rw [e2,if_pos (by omega),roInts_eq k0.2]
   exact ⟨constAVs_le _,trivial⟩
  ·rw [if_neg e];trivial
 | pan a H1=>exact h1.elim
structure Node where
 lo:Nat→Int
 hi:Nat→Int
 l:List UInt8
 r:List UInt8
def nodeAV (x:Node): List AV:=[.int .i64 (x.lo 0),.int .i64 (x.lo 1),.int .i64 (x.lo 2),.int .i64 (x.lo 3),.int .i64 (x.lo 4),.int .i64 (x.lo 5),.int .i64 (x.lo 6),.int .i64 (x.lo 7),.int .i64 (x.hi 0),.int .i64 (x.hi 1),.int .i64 (x.hi 2),.int .i64 (x.hi 3),.int .i64 (x.hi 4),.int .i64 (x.hi 5),.int .i64 (x.hi 6),.int .i64 (x.hi 7),.str x.l,.str x.r]
theorem leaf_vc (x : Fact) (Q : AV → Prop) : (kh [kInts, kSum] [] 72 [.agg (factAV x)] Q) = (let zz1 := (decide (x.t = x.t) && (decide (x.v = x.v) && (decide (x.w = x.w) && (decide (x.o = x.o) && (decide (x.p = x.p) && (decide (x.d = x.d) && (decide (x.b = x.b) && (decide (x.l = x.l) && (decide (x.t = x.t) && (decide (x.v = x.v) && (decide (x.w = x.w) && (decide (x.o = x.o) && (decide (x.p = x.p) && (decide (x.d = x.d) && (decide (x.b = x.b) && (decide (x.h = x.h) && true)))))))))))))))); (Asks (decide ((-4611686018427387903 : Int) ≤ x.t) && decide (x.t ≤ 4611686018427387903) && (decide ((-4611686018427387903 : Int) ≤ x.s) && decide (x.s ≤ 4611686018427387903) && (decide ((-4611686018427387903 : Int) ≤ x.v) && decide (x.v ≤ 4611686018427387903) && (decide ((-4611686018427387903 : Int) ≤ x.w) && decide (x.w ≤ 4611686018427387903) && (decide ((-4611686018427387903 : Int) ≤ x.o) && decide
 (x.o ≤ 4611686018427387903) && (decide ((-4611686018427387903 : Int) ≤ x.p) && decide (x.p ≤ 4611686018427387903) && (decide ((-4611686018427387903 : Int) ≤ x.d) && decide (x.d ≤ 4611686018427387903) && (decide ((-4611686018427387903 : Int) ≤ x.l) && decide (x.l ≤ 4611686018427387903) && (decide ((-4611686018427387903 : Int) ≤ x.h) && decide (x.h ≤ 4611686018427387903) && (decide ((-4611686018427387903 : Int) ≤ x.b) && decide (x.b ≤ 4611686018427387903) && true))))))))) && true && true) (Asks zz1 (Asks (Nat.ble (List.length (intsF [x.t, x.s, x.v, x.w, x.o, x.p, x.d, x.l, x.h, x.b])) 900000) (Asks zz1 (Q (AV.agg [AV.int .i64 x.t, AV.int .i64 x.v, AV.int .i64 x.w, AV.int .i64 x.o, AV.int .i64 x.p, AV.int .i64 x.d, AV.int .i64 x.b, AV.int .i64 x.l, AV.int .i64 x.t, AV.int .i64 x.v, AV.int .i64 x.w, AV.int .i64 x.o, AV.int .i64 x.p, AV.int .i64 x.d, AV.int .i64 x.b, AV.int .i64 x.h, AV.str
 (sumF (intsF [x.t, x.s, x.v, x.w, x.o, x.p, x.d, x.l, x.h, x.b])), AV.str []]))))))) := by kernel_rfl
theorem dig42_vc (x : Node) (Q : AV → Prop) : (kh [kInts, kSum, kNoEscape] [] 42 [.agg (nodeAV x)] Q) = (let zz1 := (1 + List.length (intsF [x.lo 0, x.hi 0]) + List.length (intsF [x.lo 1, x.hi 1]) + List.length (intsF [x.lo 2, x.hi 2]) + List.length (intsF [x.lo 3, x.hi 3]) + List.length (intsF [x.lo 4, x.hi 4]) + List.length (intsF [x.lo 5, x.hi 5]) + List.length (intsF [x.lo 6, x.hi 6]) + List.length (intsF [x.lo 7, x.hi 7])); let zz5 := (sapp (sapp [] [{ toBitVec := { toFin := ⟨5, Nat.mod_lt 5 (BitVec.ofNat._proof_1 8)⟩ } }]) (intsF [x.lo 0, x.hi 0])); let zz2 := (sapp (sapp (sapp zz5 (intsF [x.lo 1, x.hi 1])) (intsF [x.lo 2, x.hi 2])) (intsF [x.lo 3, x.hi 3])); let zz6 := (sapp (sapp [] [{ toBitVec := { toFin := ⟨6, Nat.mod_lt 6 (BitVec.ofNat._proof_1 8)⟩ } }]) (intsF [x.lo 0, x.hi 0])); let zz3 := (sapp (sapp (sapp zz6 (intsF [x.lo 1, x.hi 1])) (intsF [x.lo 2, x.hi 2])) (intsF [x.lo
 3, x.hi 3])); let zz4 := (decide (1 + List.length (intsF [x.lo 0, x.hi 0]) + List.length (intsF [x.lo 1, x.hi 1]) + List.length (intsF [x.lo 2, x.hi 2]) + List.length (intsF [x.lo 3, x.hi 3]) + List.length (intsF [x.lo 4, x.hi 4]) + List.length (intsF [x.lo 5, x.hi 5]) + List.length (intsF [x.lo 6, x.hi 6]) + List.length (intsF [x.lo 7, x.hi 7]) = 1 + List.length (intsF [x.lo 0, x.hi 0]) + List.length (intsF [x.lo 1, x.hi 1]) + List.length (intsF [x.lo 2, x.hi 2]) + List.length (intsF [x.lo 3, x.hi 3]) + List.length (intsF [x.lo 4, x.hi 4]) + List.length (intsF [x.lo 5, x.hi 5]) + List.length (intsF [x.lo 6, x.hi 6]) + List.length (intsF [x.lo 7, x.hi 7])) && true); let zz7 := (sapp (sapp (sapp zz2 (intsF [x.lo 4, x.hi 4])) (intsF [x.lo 5, x.hi 5])) (intsF [x.lo 6, x.hi 6])); let zz8 := (sapp (sapp (sapp zz3 (intsF [x.lo 4, x.hi 4])) (intsF [x.lo 5, x.hi 5])) (intsF [x.lo 6, x.hi 6]));
 let zz9 := (decide (0 < 1 + List.length (intsF [x.lo 0, x.hi 0]) + List.length (intsF [x.lo 1, x.hi 1]) + List.length (intsF [x.lo 2, x.hi 2]) + List.length (intsF [x.lo 3, x.hi 3]) + List.length (intsF [x.lo 4, x.hi 4]) + List.length (intsF [x.lo 5, x.hi 5]) + List.length (intsF [x.lo 6, x.hi 6]) + List.length (intsF [x.lo 7, x.hi 7]))); let zz10 := ((1 + List.length (intsF [x.lo 0, x.hi 0]) + List.length (intsF [x.lo 1, x.hi 1]) + List.length (intsF [x.lo 2, x.hi 2]) + List.length (intsF [x.lo 3, x.hi 3]) + List.length (intsF [x.lo 4, x.hi 4]) + List.length (intsF [x.lo 5, x.hi 5]) + List.length (intsF [x.lo 6, x.hi 6])) * 1 ≤ 140737488355328); let zz11 := ((1 + List.length (intsF [x.lo 0, x.hi 0]) + List.length (intsF [x.lo 1, x.hi 1]) + List.length (intsF [x.lo 2, x.hi 2]) + List.length (intsF [x.lo 3, x.hi 3]) + List.length (intsF [x.lo 4, x.hi 4]) + List.length (intsF [x.lo 5, x.hi
 5])) * 1 ≤ 140737488355328); let zz12 := ((1 + List.length (intsF [x.lo 0, x.hi 0]) + List.length (intsF [x.lo 1, x.hi 1]) + List.length (intsF [x.lo 2, x.hi 2]) + List.length (intsF [x.lo 3, x.hi 3]) + List.length (intsF [x.lo 4, x.hi 4])) * 1 ≤ 140737488355328); let zz13 := (decide ((-4611686018427387903 : Int) ≤ x.lo 0) && decide (x.lo 0 ≤ 4611686018427387903) && (decide ((-4611686018427387903 : Int) ≤ x.hi 0) && decide (x.hi 0 ≤ 4611686018427387903) && true) && true && true); let zz14 := (decide ((-4611686018427387903 : Int) ≤ x.lo 1) && decide (x.lo 1 ≤ 4611686018427387903) && (decide ((-4611686018427387903 : Int) ≤ x.hi 1) && decide (x.hi 1 ≤ 4611686018427387903) && true) && true && true); let zz15 := (decide ((-4611686018427387903 : Int) ≤ x.lo 2) && decide (x.lo 2 ≤ 4611686018427387903) && (decide ((-4611686018427387903 : Int) ≤ x.hi 2) && decide (x.hi 2 ≤ 4611686018427387903) &&
 true) && true && true); let zz16 := (decide ((-4611686018427387903 : Int) ≤ x.lo 3) && decide (x.lo 3 ≤ 4611686018427387903) && (decide ((-4611686018427387903 : Int) ≤ x.hi 3) && decide (x.hi 3 ≤ 4611686018427387903) && true) && true && true); let zz17 := (decide ((-4611686018427387903 : Int) ≤ x.lo 4) && decide (x.lo 4 ≤ 4611686018427387903) && (decide ((-4611686018427387903 : Int) ≤ x.hi 4) && decide (x.hi 4 ≤ 4611686018427387903) && true) && true && true); let zz18 := (decide ((-4611686018427387903 : Int) ≤ x.lo 5) && decide (x.lo 5 ≤ 4611686018427387903) && (decide ((-4611686018427387903 : Int) ≤ x.hi 5) && decide (x.hi 5 ≤ 4611686018427387903) && true) && true && true); let zz19 := (decide ((-4611686018427387903 : Int) ≤ x.lo 6) && decide (x.lo 6 ≤ 4611686018427387903) && (decide ((-4611686018427387903 : Int) ≤ x.hi 6) && decide (x.hi 6 ≤ 4611686018427387903) && true) && true &&
 true); let zz20 := (decide ((-4611686018427387903 : Int) ≤ x.lo 7) && decide (x.lo 7 ≤ 4611686018427387903) && (decide ((-4611686018427387903 : Int) ≤ x.hi 7) && decide (x.hi 7 ≤ 4611686018427387903) && true) && true && true); let zz21 := ((1 + List.length (intsF [x.lo 0, x.hi 0]) + List.length (intsF [x.lo 1, x.hi 1]) + List.length (intsF [x.lo 2, x.hi 2]) + List.length (intsF [x.lo 3, x.hi 3])) * 1 ≤ 140737488355328); (Cond (List.beq x.r []) (Asks zz13 (Asks (decide (1 ≤ List.length (sapp [] [{ toBitVec := { toFin := ⟨5, Nat.mod_lt 5 (BitVec.ofNat._proof_1 8)⟩ } }])) && true && true && decide ((1 + List.length (intsF [x.lo 0, x.hi 0])) * 1 ≤ 140737488355328) && (decide (1 = List.length (sapp [] [{ toBitVec := { toFin := ⟨5, Nat.mod_lt 5 (BitVec.ofNat._proof_1 8)⟩ } }])) && true)) (Asks zz14 (Asks (decide (1 + List.length (intsF [x.lo 0, x.hi 0]) ≤ List.length zz5) && true && true &&
 decide ((1 + List.length (intsF [x.lo 0, x.hi 0]) + List.length (intsF [x.lo 1, x.hi 1])) * 1 ≤ 140737488355328) && (decide (1 + List.length (intsF [x.lo 0, x.hi 0]) = List.length zz5) && true)) (Asks zz15 (Asks (decide (1 + List.length (intsF [x.lo 0, x.hi 0]) + List.length (intsF [x.lo 1, x.hi 1]) ≤ List.length (sapp zz5 (intsF [x.lo 1, x.hi 1]))) && true && true && decide ((1 + List.length (intsF [x.lo 0, x.hi 0]) + List.length (intsF [x.lo 1, x.hi 1]) + List.length (intsF [x.lo 2, x.hi 2])) * 1 ≤ 140737488355328) && (decide (1 + List.length (intsF [x.lo 0, x.hi 0]) + List.length (intsF [x.lo 1, x.hi 1]) = List.length (sapp zz5 (intsF [x.lo 1, x.hi 1]))) && true)) (Asks zz16 (Asks (decide (1 + List.length (intsF [x.lo 0, x.hi 0]) + List.length (intsF [x.lo 1, x.hi 1]) + List.length (intsF [x.lo 2, x.hi 2]) ≤ List.length (sapp (sapp zz5 (intsF [x.lo 1, x.hi 1])) (intsF [x.lo 2, x.hi
 2]))) && true && true && decide zz21 && (decide (1 + List.length (intsF [x.lo 0, x.hi 0]) + List.length (intsF [x.lo 1, x.hi 1]) + List.length (intsF [x.lo 2, x.hi 2]) = List.length (sapp (sapp zz5 (intsF [x.lo 1, x.hi 1])) (intsF [x.lo 2, x.hi 2]))) && true)) (Asks zz17 (Asks (decide (1 + List.length (intsF [x.lo 0, x.hi 0]) + List.length (intsF [x.lo 1, x.hi 1]) + List.length (intsF [x.lo 2, x.hi 2]) + List.length (intsF [x.lo 3, x.hi 3]) ≤ List.length zz2) && true && true && decide zz12 && (decide (1 + List.length (intsF [x.lo 0, x.hi 0]) + List.length (intsF [x.lo 1, x.hi 1]) + List.length (intsF [x.lo 2, x.hi 2]) + List.length (intsF [x.lo 3, x.hi 3]) = List.length zz2) && true)) (Asks zz18 (Asks (decide (1 + List.length (intsF [x.lo 0, x.hi 0]) + List.length (intsF [x.lo 1, x.hi 1]) + List.length (intsF [x.lo 2, x.hi 2]) + List.length (intsF [x.lo 3, x.hi 3]) + List.length (intsF
 [x.lo 4, x.hi 4]) ≤ List.length (sapp zz2 (intsF [x.lo 4, x.hi 4]))) && true && true && decide zz11 && (decide (1 + List.length (intsF [x.lo 0, x.hi 0]) + List.length (intsF [x.lo 1, x.hi 1]) + List.length (intsF [x.lo 2, x.hi 2]) + List.length (intsF [x.lo 3, x.hi 3]) + List.length (intsF [x.lo 4, x.hi 4]) = List.length (sapp zz2 (intsF [x.lo 4, x.hi 4]))) && true)) (Asks zz19 (Asks (decide (1 + List.length (intsF [x.lo 0, x.hi 0]) + List.length (intsF [x.lo 1, x.hi 1]) + List.length (intsF [x.lo 2, x.hi 2]) + List.length (intsF [x.lo 3, x.hi 3]) + List.length (intsF [x.lo 4, x.hi 4]) + List.length (intsF [x.lo 5, x.hi 5]) ≤ List.length (sapp (sapp zz2 (intsF [x.lo 4, x.hi 4])) (intsF [x.lo 5, x.hi 5]))) && true && true && decide zz10 && (decide (1 + List.length (intsF [x.lo 0, x.hi 0]) + List.length (intsF [x.lo 1, x.hi 1]) + List.length (intsF [x.lo 2, x.hi 2]) + List.length (intsF
 [x.lo 3, x.hi 3]) + List.length (intsF [x.lo 4, x.hi 4]) + List.length (intsF [x.lo 5, x.hi 5]) = List.length (sapp (sapp zz2 (intsF [x.lo 4, x.hi 4])) (intsF [x.lo 5, x.hi 5]))) && true)) (Asks zz20 (Asks (decide (1 + List.length (intsF [x.lo 0, x.hi 0]) + List.length (intsF [x.lo 1, x.hi 1]) + List.length (intsF [x.lo 2, x.hi 2]) + List.length (intsF [x.lo 3, x.hi 3]) + List.length (intsF [x.lo 4, x.hi 4]) + List.length (intsF [x.lo 5, x.hi 5]) + List.length (intsF [x.lo 6, x.hi 6]) ≤ List.length zz7) && true && true && decide (zz1 * 1 ≤ 140737488355328) && (decide (1 + List.length (intsF [x.lo 0, x.hi 0]) + List.length (intsF [x.lo 1, x.hi 1]) + List.length (intsF [x.lo 2, x.hi 2]) + List.length (intsF [x.lo 3, x.hi 3]) + List.length (intsF [x.lo 4, x.hi 4]) + List.length (intsF [x.lo 5, x.hi 5]) + List.length (intsF [x.lo 6, x.hi 6]) = List.length zz7) && true)) (Asks zz9 (Asks zz4
 (Asks (decide (Int.ofNat zz1 = Int.ofNat zz1)) (Asks (decide (Int.toNat (Int.ofNat zz1) = List.length (sapp zz7 (intsF [x.lo 7, x.hi 7]))) && true && true && decide (0 < Int.ofNat zz1) && decide (Int.ofNat zz1 ≤ 9223372036854775807) && true) (Asks (decide (x.l = x.l)) (Asks (decide (List.length (sapp zz7 (intsF [x.lo 7, x.hi 7])) + List.length x.l ≤ 9223372036854775807)) (Asks (decide (x.r = x.r)) (Asks (decide (List.length (sapp (sapp zz7 (intsF [x.lo 7, x.hi 7])) x.l) + List.length x.r ≤ 9223372036854775807)) (Asks (Nat.ble (List.length (sapp (sapp (sapp zz7 (intsF [x.lo 7, x.hi 7])) x.l) x.r)) 900000) (Q (AV.str (sumF (sapp (sapp (sapp zz7 (intsF [x.lo 7, x.hi 7])) x.l) x.r))))))))))))))))))))))))))))) (Asks zz13 (Asks (decide (1 ≤ List.length (sapp [] [{ toBitVec := { toFin := ⟨6, Nat.mod_lt 6 (BitVec.ofNat._proof_1 8)⟩ } }])) && true && true && decide ((1 + List.length (intsF [x.lo
 0, x.hi 0])) * 1 ≤ 140737488355328) && (decide (1 = List.length (sapp [] [{ toBitVec := { toFin := ⟨6, Nat.mod_lt 6 (BitVec.ofNat._proof_1 8)⟩ } }])) && true)) (Asks zz14 (Asks (decide (1 + List.length (intsF [x.lo 0, x.hi 0]) ≤ List.length zz6) && true && true && decide ((1 + List.length (intsF [x.lo 0, x.hi 0]) + List.length (intsF [x.lo 1, x.hi 1])) * 1 ≤ 140737488355328) && (decide (1 + List.length (intsF [x.lo 0, x.hi 0]) = List.length zz6) && true)) (Asks zz15 (Asks (decide (1 + List.length (intsF [x.lo 0, x.hi 0]) + List.length (intsF [x.lo 1, x.hi 1]) ≤ List.length (sapp zz6 (intsF [x.lo 1, x.hi 1]))) && true && true && decide ((1 + List.length (intsF [x.lo 0, x.hi 0]) + List.length (intsF [x.lo 1, x.hi 1]) + List.length (intsF [x.lo 2, x.hi 2])) * 1 ≤ 140737488355328) && (decide (1 + List.length (intsF [x.lo 0, x.hi 0]) + List.length (intsF [x.lo 1, x.hi 1]) = List.length (sapp
 zz6 (intsF [x.lo 1, x.hi 1]))) && true)) (Asks zz16 (Asks (decide (1 + List.length (intsF [x.lo 0, x.hi 0]) + List.length (intsF [x.lo 1, x.hi 1]) + List.length (intsF [x.lo 2, x.hi 2]) ≤ List.length (sapp (sapp zz6 (intsF [x.lo 1, x.hi 1])) (intsF [x.lo 2, x.hi 2]))) && true && true && decide zz21 && (decide (1 + List.length (intsF [x.lo 0, x.hi 0]) + List.length (intsF [x.lo 1, x.hi 1]) + List.length (intsF [x.lo 2, x.hi 2]) = List.length (sapp (sapp zz6 (intsF [x.lo 1, x.hi 1])) (intsF [x.lo 2, x.hi 2]))) && true)) (Asks zz17 (Asks (decide (1 + List.length (intsF [x.lo 0, x.hi 0]) + List.length (intsF [x.lo 1, x.hi 1]) + List.length (intsF [x.lo 2, x.hi 2]) + List.length (intsF [x.lo 3, x.hi 3]) ≤ List.length zz3) && true && true && decide zz12 && (decide (1 + List.length (intsF [x.lo 0, x.hi 0]) + List.length (intsF [x.lo 1, x.hi 1]) + List.length (intsF [x.lo 2, x.hi 2]) +
 List.length (intsF [x.lo 3, x.hi 3]) = List.length zz3) && true)) (Asks zz18 (Asks (decide (1 + List.length (intsF [x.lo 0, x.hi 0]) + List.length (intsF [x.lo 1, x.hi 1]) + List.length (intsF [x.lo 2, x.hi 2]) + List.length (intsF [x.lo 3, x.hi 3]) + List.length (intsF [x.lo 4, x.hi 4]) ≤ List.length (sapp zz3 (intsF [x.lo 4, x.hi 4]))) && true && true && decide zz11 && (decide (1 + List.length (intsF [x.lo 0, x.hi 0]) + List.length (intsF [x.lo 1, x.hi 1]) + List.length (intsF [x.lo 2, x.hi 2]) + List.length (intsF [x.lo 3, x.hi 3]) + List.length (intsF [x.lo 4, x.hi 4]) = List.length (sapp zz3 (intsF [x.lo 4, x.hi 4]))) && true)) (Asks zz19 (Asks (decide (1 + List.length (intsF [x.lo 0, x.hi 0]) + List.length (intsF [x.lo 1, x.hi 1]) + List.length (intsF [x.lo 2, x.hi 2]) + List.length (intsF [x.lo 3, x.hi 3]) + List.length (intsF [x.lo 4, x.hi 4]) + List.length (intsF [x.lo 5, x.hi
 5]) ≤ List.length (sapp (sapp zz3 (intsF [x.lo 4, x.hi 4])) (intsF [x.lo 5, x.hi 5]))) && true && true && decide zz10 && (decide (1 + List.length (intsF [x.lo 0, x.hi 0]) + List.length (intsF [x.lo 1, x.hi 1]) + List.length (intsF [x.lo 2, x.hi 2]) + List.length (intsF [x.lo 3, x.hi 3]) + List.length (intsF [x.lo 4, x.hi 4]) + List.length (intsF [x.lo 5, x.hi 5]) = List.length (sapp (sapp zz3 (intsF [x.lo 4, x.hi 4])) (intsF [x.lo 5, x.hi 5]))) && true)) (Asks zz20 (Asks (decide (1 + List.length (intsF [x.lo 0, x.hi 0]) + List.length (intsF [x.lo 1, x.hi 1]) + List.length (intsF [x.lo 2, x.hi 2]) + List.length (intsF [x.lo 3, x.hi 3]) + List.length (intsF [x.lo 4, x.hi 4]) + List.length (intsF [x.lo 5, x.hi 5]) + List.length (intsF [x.lo 6, x.hi 6]) ≤ List.length zz8) && true && true && decide (zz1 * 1 ≤ 140737488355328) && (decide (1 + List.length (intsF [x.lo 0, x.hi 0]) + List.length
 (intsF [x.lo 1, x.hi 1]) + List.length (intsF [x.lo 2, x.hi 2]) + List.length (intsF [x.lo 3, x.hi 3]) + List.length (intsF [x.lo 4, x.hi 4]) + List.length (intsF [x.lo 5, x.hi 5]) + List.length (intsF [x.lo 6, x.hi 6]) = List.length zz8) && true)) (Asks zz9 (Asks zz4 (Asks (decide (Int.ofNat zz1 = Int.ofNat zz1)) (Asks (decide (Int.toNat (Int.ofNat zz1) = List.length (sapp zz8 (intsF [x.lo 7, x.hi 7]))) && true && true && decide (0 < Int.ofNat zz1) && decide (Int.ofNat zz1 ≤ 9223372036854775807) && true) (Asks (decide (x.l = x.l)) (Asks (decide (List.length (sapp zz8 (intsF [x.lo 7, x.hi 7])) + List.length x.l ≤ 9223372036854775807)) (Asks (decide (x.r = x.r)) (Asks (decide (List.length (sapp (sapp zz8 (intsF [x.lo 7, x.hi 7])) x.l) + List.length x.r ≤ 9223372036854775807)) (Asks (Nat.ble (List.length (sapp (sapp (sapp zz8 (intsF [x.lo 7, x.hi 7])) x.l) x.r)) 900000) (Q (AV.str (sumF
 (sapp (sapp (sapp zz8 (intsF [x.lo 7, x.hi 7])) x.l) x.r))))))))))))))))))))))))))))))) := by kernel_rfl
end Go.Sx
end
