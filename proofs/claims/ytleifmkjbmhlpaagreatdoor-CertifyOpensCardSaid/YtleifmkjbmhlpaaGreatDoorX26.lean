/- CertifyOpens is proved, part 26. -/
import Derived.Test.YtleifmkjbmhlpaaGreatDoorX25
import Derived.Test.YtleifmkjbmhlpaaGreatDoorX15
import Derived.Test.YtleifmkjbmhlpaaGreatDoorX16
set_option linter.unusedVariables false
set_option linter.unusedSimpArgs false
set_option linter.unusedSectionVars false
section
set_option maxRecDepth 1000000
namespace Go.Sx
open Go
end Go.Sx
end
section
set_option maxRecDepth 1000000
namespace Go.Sx
open Go
end Go.Sx
end
section
set_option maxRecDepth 1000000
namespace Go.Sx
open Go
end Go.Sx
end
section
set_option maxRecDepth 1000000
namespace Go.Sx
open Go
noncomputable def s127 (x:List UInt8×Nat): St:={t:=Tr.ofList [(2,.str []),(3,.int .i64 0),(4,.int .u64 x.2),(5,.own 12 x.1.length 1)],nt:=31,H:={n:=13,t:=Tr.ofList [(12,.str x.1 (.ty 5))]},df:=[]}
noncomputable def e127 (l:List UInt8) (z:Nat): GE:=.one (.x 0 (s127 (l,z)))
theorem zig_vc (n:Int) (Q:AV→Prop): (kb [] [] 167 [.int .i64 n] Q)=(Cond (decide (n<0)) (Asks (inR .i64 (0-n)) (Q (AV.int .u64 (Int.emod (Int.emod (Int.emod (0-n) 18446744073709551616*2) 18446744073709551616-1) 18446744073709551616)))) (Q (AV.int .u64 (Int.emod (Int.emod n 18446744073709551616*2) 18446744073709551616)))):=by kernel_rfl
theorem rput_step (s r : List UInt8) (z zN : Nat) (Q : Prop) : (kr [] [] 127 5002 12 s127 (fun _ => e127 r zN) (fun x => (x.1 ++ [digN x.2], x.2 / 128)) Q (s, z)) = (Cond (decide (Int.ofNat z ≥ 128)) (Asks (decide (List.length s ≤ List.length s) && true && true && decide ((List.length s + 1) * 1 ≤ 140737488355328) && (decide (List.length s = List.length s) && (decide (0 ≤ Int.emod (Int.emod (Int.tmod (Int.ofNat z) 128 + 128) 18446744073709551616) 256) && decide (Int.emod (Int.emod (Int.tmod (Int.ofNat z) 128 + 128) 18446744073709551616) 256 ≤ 255) && true))) (EqB (List.append s [UInt8.ofNat (Int.toNat (Int.emod (Int.emod (Int.tmod (Int.ofNat z) 128 + 128) 18446744073709551616) 256))]) (List.append s [digN z]) (EqN (List.length s + 1) (List.length (List.append s [digN z])) (EqI (Int.emod (Int.tdiv (Int.ofNat z) 128) 18446744073709551616) (Int.ofNat (z / 128)) (EqB [] [] Q))))) (EqB s r
 (EqN (List.length s) (List.length r) (EqI (Int.ofNat z) (Int.ofNat zN) (EqB [] [] True))))) := by kernel_rfl
theorem zig_ok {n:Int} (h1 : -4611686018427387903≤n) (h2:n≤4611686018427387903): CallGives PP II 167 [.int .i64 n] (AH.blank 12) (.ret (.int .u64 (zN n)) (AH.blank 12)):=by
 refine of_kb (ks:=[]) (T:=[]) (fun _=>⟨rfl,rfl⟩) ((zig_vc n _).mpr ?_)
 refine Cond.mk (fun h=>Asks.mk (inR_small (by omega) (by omega)) ?_) fun h=>?_
 ·simp only [decide_eq_true_eq] at h
  congr 1
  unfold zN
  rw [if_neg (by omega)]
  show ((0-n)%18446744073709551616*2%18446744073709551616-1)%18446744073709551616=_
  omega
 ·simp only [decide_eq_false_iff_not] at h
  congr 1
  unfold zN
  rw [if_pos (by omega)]
  show (n%18446744073709551616*2)%18446744073709551616=_
  omega
noncomputable def kZig:Known PP II:=Known.pure 167
 (fun X args kn=>match args with
  | [.int .i64 n]=>X.assert (okI n) (kn (.int .u64 (Int.ofNat (zN n))))
  | _=>X.fail)
 fun X sem hX args kn h=>by
  split at h
  ·obtain ⟨h1,h2⟩:=hX.assert _ _ h
   simp only [okI,Bool.and_eq_true,decide_eq_true_eq] at h1
   exact ⟨_,h2,fun _=>rfl,fun _=>rfl,zig_ok h1.1 h1.2⟩
  ·exact absurd h hX.fail
theorem rput_vc (n : Int) (r : List UInt8) (z : Nat) (Q : AV → Prop) : (kb [kZig] [(5002, 12, s127 ([], zN n), e127 r z)] 127 [.int .i64 n] Q) = (Cond (decide (n < (-4611686018427387903 : Int))) (Q (AV.tup [AV.str [], AV.int .i64 10])) (Cond (decide (n > 4611686018427387903)) (Q (AV.tup [AV.str [], AV.int .i64 10])) (Asks (okI n) (LoopAt PP II false (loopOf II 127 5002) 12 (s127 ([], zN n)) (e127 r z) ∧ EqB [] [] (EqI (Int.ofNat (zN n)) (Int.ofNat (zN n)) (EqB [] [] (Asks (decide (List.length r ≤ List.length r) && true && true && decide ((List.length r + 1) * 1 ≤ 140737488355328) && (decide (List.length r = List.length r) && (decide (0 ≤ Int.emod (Int.ofNat z) 256) && decide (Int.emod (Int.ofNat z) 256 ≤ 255) && true))) (Asks (decide (List.length r + 1 = List.length (List.append r [UInt8.ofNat (Int.toNat (Int.emod (Int.ofNat z) 256))]))) (Q (AV.tup [AV.str (List.append r [UInt8.ofNat
 (Int.toNat (Int.emod (Int.ofNat z) 256))]), AV.int .i64 0])))))))))) := by kernel_rfl
def preG:Nat→Nat→List UInt8×Nat
 | 0,z=>([],z)
 | f+1,z=>match Nat.blt z 128 with
  | true=>([],z)
  | false=>(digN z::(preG f (z/128)).1,(preG f (z/128)).2)
theorem preG_succ (k z:Nat): preG (k+1) z=match Nat.blt z 128 with | true=>([],z) | false=>(digN z::(preG k (z/128)).1,(preG k (z/128)).2):=rfl
theorem preG_put : ∀ {f z:Nat},z<128^f→0<f→putG f z=(preG f z).1++[UInt8.ofNat (preG f z).2]∧(preG f z).2<128
 | 0,_,_,h=>absurd h (Nat.lt_irrefl _)
 | f+1,z,h,_=>by
  unfold putG preG
  cases hb:Nat.blt z 128 with
  | true=>exact ⟨rfl,(Nat.blt_eq ..).mp hb⟩
  | false=>
   have hz : ¬ z<128:=fun e=>by rw [(Nat.blt_eq ..).mpr e] at hb;cases hb
   have hf:0<f:=by
    cases f with
    | zero=>simp at h;omega
    | succ f=>omega
   have:=preG_put (f:=f) (z:=z/128) (by rw [Nat.div_lt_iff_lt_mul (by omega)];rw [Nat.pow_succ] at h;exact h) hf
   exact ⟨by show digN z::putG f (z/128)=_;rw [this.1];rfl,this.2⟩
theorem preG_len : ∀ f z,(preG f z).1.length≤f
 | 0,_=>Nat.zero_le _
 | f+1,z=>by
  unfold preG
  split
  ·exact Nat.zero_le _
  ·show (preG f (z/128)).1.length+1≤f+1
   have:=preG_len f (z/128)
   omega
theorem rput_loop {z0:Nat} (hz0:z0<18446744073709551616): LoopAt PP II false (loopOf II 127 5002) 12 (s127 ([],z0)) (e127 (preG 10 z0).1 (preG 10 z0).2):=
 LoopAt.of (ι:=List UInt8×Nat) hII [] (lamT_ok PP II []) 1000 12 (fun x=>x.2<18446744073709551616∧ ∃ k,x.2<128^k∧0<k∧x.1.length+k=10∧(preG 10 z0).1=x.1++(preG k x.2).1∧(preG 10 z0).2=(preG k x.2).2) s127 (fun _=>e127 (preG 10 z0).1 (preG 10 z0).2) (fun x=>x.2) (fun x=>(x.1++[digN x.2],x.2/128)) ([],z0) rfl
  ⟨hz0,10,by show z0<_;omega,by omega,rfl,rfl,rfl⟩ fun x hx=>by
  obtain ⟨s,z⟩:=x
  obtain ⟨hz,k,hk,hk0,hl,hr,hr2⟩:=hx
  change z<_ at hz
  change z<128^k at hk
  change s.length+k=10 at hl
  change (preG 10 z0).1=s++(preG k z).1 at hr
  change (preG 10 z0).2=(preG k z).2 at hr2
  obtain ⟨k,rfl⟩: ∃ m,k=m+1:=⟨k-1,by omega⟩
  have eZ:Int.ofNat z=(z:Int):=rfl
  refine (rput_step s (preG 10 z0).1 z (preG 10 z0).2 _).mpr (Cond.mk (fun h=>?_) fun h=>?_)
  ·simp only [decide_eq_true_eq,ge_iff_le,eZ] at h
   have hb:Nat.blt z 128=false:=bltF (by omega)
   have e1:preG (k+1) z=(digN z::(preG k (z/128)).1,(preG k (z/128)).2):=by rw [preG_succ,hb]
   have t1:Int.tmod (Int.ofNat z) 128=((z%128:Nat): Int):=rfl
   have t2:Int.tdiv (Int.ofNat z) 128=((z/128:Nat): Int):=rfl
   have t3:Int.emod (Int.emod (Int.tmod (Int.ofNat z) 128+128) 18446744073709551616) 256=((z%128+128:Nat): Int):=by
    rw [t1]
    show (((z%128:Nat): Int)+128)%18446744073709551616%256=_
    omega
   have t4:Int.emod (Int.tdiv (Int.ofNat z) 128) 18446744073709551616=Int.ofNat (z/128):=by
    rw [t2]
    show ((z/128:Nat): Int)%18446744073709551616=((z/128:Nat): Int)
    omega
   have hk1:z/128<128^k:=by rw [Nat.div_lt_iff_lt_mul (by omega)];rw [Nat.pow_succ] at hk;exact hk
   have hk2:0<k:=by
    cases k with
    | zero=>simp at hk;omega
    | succ k=>omega
   rw [t3,t4]
   have ask:(decide ((0:Int)≤((z%128+128:Nat): Int))&&decide (((z%128+128:Nat): Int)≤255)&&true)=true:=by
    rw [decide_eq_true (by omega),decide_eq_true (by omega)];rfl
   refine Asks.mk ?_ (EqB.mk rfl (EqN.mk ?_ (EqI.mk rfl (EqB.mk rfl ⟨⟨by show z/128<_;omega,k,hk1,hk2,?_,?_,?_⟩,by show z/128<z;omega,rfl⟩))))
   ·rw [ask,decide_eq_true (Nat.le_refl _),decide_eq_true (show (s.length+1)*1≤140737488355328 by omega),decide_eq_true rfl];rfl
   ·show _=(s++[digN z]).length
    simp
   ·show (s++[digN z]).length+k=10
    simp;omega
   ·show _=(s++[digN z])++_
    rw [hr,e1];simp
   ·show _=(preG k (z/128)).2
    rw [hr2,e1]
  ·simp only [decide_eq_false_iff_not,ge_iff_le,eZ] at h
   have hb:Nat.blt z 128=true:=(Nat.blt_eq ..).mpr (by omega)
   have e1:preG (k+1) z=([],z):=by rw [preG_succ,hb]
   rw [hr,hr2,e1]
   exact EqB.mk (List.append_nil s).symm (EqN.mk (by simp) (EqI.mk rfl (EqB.mk rfl trivial)))
theorem rput_ok {n:Int} (h1 : -4611686018427387903≤n) (h2:n≤4611686018427387903): CallGives PP II 127 [.int .i64 n] (AH.blank 12) (.ret (.tup [.str (putF n),.int .i64 0]) (AH.blank 12)):=by
 have hz:=zN_lt h1 h2
 obtain ⟨p1,p2⟩:=preG_put (f:=10) (z:=zN n) (by show zN n<_;omega) (by omega)
 have pl:=preG_len 10 (zN n)
 refine of_kb (ks:=[kZig]) (T:=[(5002,12,s127 ([],zN n),e127 (preG 10 (zN n)).1 (preG 10 (zN n)).2)]) (fun _=>⟨rfl,⟨rfl,rfl⟩,trivial⟩) ?_
 rw [rput_vc]
 have em:Int.emod (Int.ofNat (preG 10 (zN n)).2) 256=((preG 10 (zN n)).2:Int):=by
  show ((preG 10 (zN n)).2:Int)%256=_
  omega
 refine Cond.mk (fun h=>?_) fun _=>Cond.mk (fun h=>?_) fun _=>Asks.mk (by unfold okI;rw [decide_eq_true h1,decide_eq_true h2];rfl) ⟨rput_loop hz,EqB.mk rfl (EqI.mk rfl (EqB.mk rfl (Asks.mk ?_ (Asks.mk ?_ ?_))))⟩
 ·simp only [decide_eq_true_eq] at h;omega
 ·simp only [decide_eq_true_eq,gt_iff_lt] at h;omega
 ·rw [em,decide_eq_true (Nat.le_refl _),decide_eq_true (show ((preG 10 (zN n)).1.length+1)*1≤140737488355328 by omega),decide_eq_true rfl,decide_eq_true (show (0:Int)≤_ by omega),decide_eq_true (show ((preG 10 (zN n)).2:Int)≤255 by omega)];rfl
 ·refine decide_eq_true ?_
  show _=((preG 10 (zN n)).1++[_]).length
  simp
 ·rw [em]
  have e:putF n=List.append (preG 10 (zN n)).1 [UInt8.ofNat (Int.toNat ((preG 10 (zN n)).2:Int))]:=p1
  rw [e]
noncomputable def kRPut:Known PP II:=Known.pure 127
 (fun X args kn=>match args with
  | [.int .i64 n]=>X.assert (okI n) (kn (.tup [.str (putF n),.int .i64 0]))
  | _=>X.fail)
 fun X sem hX args kn h=>by
  split at h
  ·obtain ⟨h1,h2⟩:=hX.assert _ _ h
   simp only [okI,Bool.and_eq_true,decide_eq_true_eq] at h1
   exact ⟨_,h2,fun _=>rfl,fun _=>rfl,rput_ok h1.1 h1.2⟩
  ·exact absurd h hX.fail
end Go.Sx
end
