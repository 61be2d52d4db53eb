/- CertifyOpens is proved, part 14. -/
import Derived.Test.YtleifmkjbmhlpaaGreatDoorX13
import Derived.Test.YtleifmkjbmhlpaaGreatDoorX10
set_option linter.unusedVariables false
set_option linter.unusedSimpArgs false
set_option linter.unusedSectionVars false
section
namespace Go.Sha
def force {α:Type} (n:Nat) (K:Nat→α): α:=match n with | 0=>K 0 | m+1=>K (m+1)
theorem force_eq {α:Type} (n:Nat) (K:Nat→α): force n K=K n:=by cases n<;>rfl
def rot (x n:Nat): Nat:=Nat.lor (Nat.shiftRight x n) (Nat.mod (Nat.shiftLeft x (Nat.sub 32 n)) 4294967296)
def add32 (a b:Nat): Nat:=Nat.mod (Nat.add a b) 4294967296
def inv32 (a:Nat): Nat:=Nat.sub 4294967295 a
def sig0 (x:Nat): Nat:=Nat.xor (Nat.xor (rot x 7) (rot x 18)) (Nat.shiftRight x 3)
def sig1 (x:Nat): Nat:=Nat.xor (Nat.xor (rot x 17) (rot x 19)) (Nat.shiftRight x 10)
def sum0 (x:Nat): Nat:=Nat.xor (Nat.xor (rot x 2) (rot x 13)) (rot x 22)
def sum1 (x:Nat): Nat:=Nat.xor (Nat.xor (rot x 6) (rot x 11)) (rot x 25)
def consts:List Nat:=[0x428a2f98,0x71374491,0xb5c0fbcf,0xe9b5dba5,0x3956c25b,0x59f111f1,0x923f82a4,0xab1c5ed5,0xd807aa98,0x12835b01,0x243185be,0x550c7dc3,0x72be5d74,0x80deb1fe,0x9bdc06a7,0xc19bf174,0xe49b69c1,0xefbe4786,0x0fc19dc6,0x240ca1cc,0x2de92c6f,0x4a7484aa,0x5cb0a9dc,0x76f988da,0x983e5152,0xa831c66d,0xb00327c8,0xbf597fc7,0xc6e00bf3,0xd5a79147,0x06ca6351,0x14292967,0x27b70a85,0x2e1b2138,0x4d2c6dfc,0x53380d13,0x650a7354,0x766a0abb,0x81c2c92e,0x92722c85,0xa2bfe8a1,0xa81a664b,0xc24b8b70,0xc76c51a3,0xd192e819,0xd6990624,0xf40e3585,0x106aa070,0x19a4c116,0x1e376c08,0x2748774c,0x34b0bcb5,0x391c0cb3,0x4ed8aa4a,0x5b9cca4f,0x682e6ff3,0x748f82ee,0x78a5636f,0x84c87814,0x8cc70208,0x90befffa,0xa4506ceb,0xbef9a3f7,0xc67178f2]
def nextW (l:List Nat): Nat:=add32 (add32 (add32 (l.getD 15 0) (sig0 (l.getD 14 0))) (l.getD 6 0)) (sig1 (l.getD 1 0))
def sched:Nat→List Nat→List Nat
 | 0,l=>l
 | n+1,l=>force (nextW l) fun x=>sched n (x::l)
structure W8 where
 a:Nat
 b:Nat
 c:Nat
 d:Nat
 e:Nat
 f:Nat
 g:Nat
 h:Nat
def round (v:W8) (k w:Nat): W8 :=
 let t:=add32 (add32 (add32 (add32 v.h (sum1 v.e)) (Nat.xor (Nat.land v.e v.f) (Nat.land (inv32 v.e) v.g))) k) w
 let u:=add32 (sum0 v.a) (Nat.xor (Nat.xor (Nat.land v.a v.b) (Nat.land v.a v.c)) (Nat.land v.b v.c))
 force (add32 t u) fun a=>force (add32 v.d t) fun e=>⟨a,v.a,v.b,v.c,e,v.e,v.f,v.g⟩
def rounds:W8→List Nat→List Nat→W8
 | v,k::ks,w::ws=>match round v k w with | ⟨a,b,c,d,e,f,g,h⟩=>rounds ⟨a,b,c,d,e,f,g,h⟩ ks ws
 | v,_,_=>v
def word (a b c d:UInt8): Nat:=Nat.add (Nat.add (Nat.add (Nat.mul a.toNat 16777216) (Nat.mul b.toNat 65536)) (Nat.mul c.toNat 256)) d.toNat
def wordsOf:List UInt8→List Nat
 | a::b::c::d::l=>force (word a b c d) fun x=>x::wordsOf l
 | _=>[]
def block (h:W8) (b:List UInt8): W8 :=
 match rounds h consts (sched 48 (wordsOf b).reverse).reverse with
 | ⟨a,b,c,d,e,f,g,i⟩=>force (add32 h.a a) fun a=>force (add32 h.b b) fun b=>force (add32 h.c c) fun c=>force (add32 h.d d) fun d=>force (add32 h.e e) fun e=>force (add32 h.f f) fun f=>force (add32 h.g g) fun g=>force (add32 h.h i) fun i=>⟨a,b,c,d,e,f,g,i⟩
def blocks:Nat→W8→List UInt8→W8
 | 0,h,_=>h
 | n+1,h,l=>match block h (l.take 64) with | ⟨a,b,c,d,e,f,g,i⟩=>blocks n ⟨a,b,c,d,e,f,g,i⟩ (l.drop 64)
def bytesOf (x:Nat): List UInt8:=[UInt8.ofNat (Nat.div x 16777216),UInt8.ofNat (Nat.div x 65536),UInt8.ofNat (Nat.div x 256),UInt8.ofNat x]
def zeros (n:Nat): Nat:=(119-n%64)%64
def padded (s:List UInt8): List UInt8 :=
 s++128::(List.replicate (zeros s.length) 0++(List.range 8).map fun i=>UInt8.ofNat (8*s.length/2^(8*(7-i))))
def iv:W8:=⟨0x6a09e667,0xbb67ae85,0x3c6ef372,0xa54ff53a,0x510e527f,0x9b05688c,0x1f83d9ab,0x5be0cd19⟩
def sum (s:List UInt8): List UInt8 :=
 match blocks ((padded s).length/64) iv (padded s) with
 | ⟨a,b,c,d,e,f,g,h⟩=>bytesOf a++bytesOf b++bytesOf c++bytesOf d++bytesOf e++bytesOf f++bytesOf g++bytesOf h
end Go.Sha
end
section
set_option maxRecDepth 1000000
namespace Go.Sx
open Go
theorem rot_vc (x k:Int) (Q:AV→Prop): (kb [] [] 206 [.int .u32 x,.int .i64 k] Q)=(let zz1:=(Int.ofNat (Nat.land (Int.toNat (Int.emod (Int.emod k 18446744073709551616) 18446744073709551616)) 31));(Asks (decide (0≤Int.emod zz1 18446744073709551616)&&true) (Asks (decide (0≤Int.emod (32-Int.emod zz1 18446744073709551616) 18446744073709551616)) (Q (AV.int .u32 (Int.emod (Int.ofNat (Nat.lor (Int.toNat (Int.emod (Int.emod (x*Int.pow 2 (if Int.toNat (Int.emod zz1 18446744073709551616)≤32 then Int.toNat (Int.emod zz1 18446744073709551616) else 32)) 4294967296) 4294967296)) (Int.toNat (Int.emod (Int.fdiv x (Int.pow 2 (if Int.toNat (Int.emod (32-Int.emod zz1 18446744073709551616) 18446744073709551616)≤32 then Int.toNat (Int.emod (32-Int.emod zz1 18446744073709551616) 18446744073709551616) else 32))) 4294967296)))) 4294967296)))))):=by kernel_rfl
theorem rot_k {n:Nat} (h1:1≤n) (h2:n≤31): Int.emod (Int.ofNat (Nat.land (Int.toNat (Int.emod (Int.emod (-(n:Int)) 18446744073709551616) 18446744073709551616)) 31)) 18446744073709551616=((32-n:Nat): Int):=by
 have e1:Int.toNat (Int.emod (Int.emod (-(n:Int)) 18446744073709551616) 18446744073709551616)=18446744073709551616-n:=by
  show ((-(n:Int))%18446744073709551616%18446744073709551616).toNat=_
  omega
 have e2:Nat.land (18446744073709551616-n) 31=(18446744073709551616-n)%32:=Nat.and_two_pow_sub_one_eq_mod _ 5
 rw [e1,e2]
 have e3:(18446744073709551616-n)%32=32-n:=by omega
 rw [e3]
 exact Int.emod_eq_of_lt (by show (0:Int)≤((32-n:Nat): Int);omega) (by show ((32-n:Nat): Int)<_;omega)
theorem rot_ok {x n:Nat} (hx:x<4294967296) (h1:1≤n) (h2:n≤31): CallGives PP II 206 [.int .u32 x,.int .i64 (-(n:Int))] (AH.blank 12) (.ret (.int .u32 (Sha.rot x n)) (AH.blank 12)):=by
 refine of_kb (ks:=[]) (T:=[]) (fun _=>⟨rfl,rfl⟩) ((rot_vc x (-(n:Int)) _).mpr ?_)
 simp only [rot_k h1 h2]
 have e1:Int.emod (32-((32-n:Nat): Int)) 18446744073709551616=(n:Int):=by
  show (32-((32-n:Nat): Int))%18446744073709551616=_
  omega
 simp only [e1,Int.toNat_natCast]
 rw [if_pos (by omega),if_pos (by omega)]
 have p1:Int.pow 2 (32-n)=((2^(32-n): Nat): Int):=by show (2:Int)^_=_;simp
 have p2:Int.pow 2 n=((2^n:Nat): Int):=by show (2:Int)^_=_;simp
 rw [p1,p2]
 have q1:Int.toNat (Int.emod (Int.emod ((x:Int)*((2^(32-n): Nat): Int)) 4294967296) 4294967296)=(x*2^(32-n))%4294967296:=by
  rw [←Int.natCast_mul]
  show (((x*2^(32-n): Nat): Int)%4294967296%4294967296).toNat=_
  generalize x*2^(32-n)=p
  omega
 have q2:Int.toNat (Int.emod (Int.fdiv (x:Int) ((2^n:Nat): Int)) 4294967296)=x/2^n:=by
  rw [Int.fdiv_eq_ediv_of_nonneg _ (Int.natCast_nonneg _),←Int.natCast_ediv]
  have:x/2^n≤x:=Nat.div_le_self _ _
  show (((x/2^n:Nat): Int)%4294967296).toNat=_
  generalize x/2^n=p at*
  omega
 rw [q1,q2]
 refine Asks.mk (by simp) (Asks.mk (by simp) ?_)
 congr 1
 have e2:Nat.lor ((x*2^(32-n))%4294967296) (x/2^n)=Sha.rot x n:=by
  show (x*2^(32-n))%4294967296 ||| x/2^n=Nat.lor (x>>>n) ((x <<< (32-n))%4294967296)
  rw [Nat.shiftRight_eq_div_pow,Nat.shiftLeft_eq]
  exact Nat.or_comm _ _
 rw [e2]
 have:Sha.rot x n<4294967296:=by
  rw [←e2]
  exact Nat.or_lt_two_pow (n:=32) (Nat.mod_lt _ (by omega)) (Nat.lt_of_le_of_lt (Nat.div_le_self _ _) hx)
 exact Int.emod_eq_of_lt (by show (0:Int)≤(Sha.rot x n:Int);omega) (by show (Sha.rot x n:Int)<_;omega)
theorem rot_lt {x n:Nat} (hx:x<4294967296): Sha.rot x n<4294967296 :=
 Nat.or_lt_two_pow (n:=32) (by show x>>>n<_;rw [Nat.shiftRight_eq_div_pow];exact Nat.lt_of_le_of_lt (Nat.div_le_self _ _) hx) (Nat.mod_lt _ (by omega))
noncomputable def kRot:Known PP II:=Known.pure 206
 (fun X args kn=>match args with
  | [.int .u32 x,.int .i64 k]=>X.assert (decide (0≤x)&&decide (x<4294967296)&&decide (-31≤k)&&decide (k≤ -1)) (kn (.int .u32 (Sha.rot x.toNat (-k).toNat)))
  | _=>X.fail)
 fun X sem hX args kn h=>by
  split at h
  ·rename_i x k
   obtain ⟨h1,h2⟩:=hX.assert _ _ h
   simp only [Bool.and_eq_true,decide_eq_true_eq] at h1
   refine ⟨_,h2,fun _=>rfl,fun _=>rfl,?_⟩
   have:=rot_ok (x:=x.toNat) (n:=(-k).toNat) (by omega) (by omega) (by omega)
   rwa [Int.toNat_of_nonneg h1.1.1.1,Int.toNat_of_nonneg (by omega),Int.neg_neg] at this
  ·exact absurd h hX.fail
theorem mixed2_vc (x a b:Int) (Q:AV→Prop): (kb [kRot] [] 164 [.int .u32 x,intsAV [a,b]] Q)=(Asks (inR .i64 (0-a)) (Asks (decide (0≤x)&&decide (x<4294967296)&&decide ((-31:Int)≤0-a)&&decide (0-a≤(-1:Int))) (Asks (inR .i64 1) (Asks (inR .i64 (0-b)) (Asks (decide (0≤x)&&decide (x<4294967296)&&decide ((-31:Int)≤0-b)&&decide (0-b≤(-1:Int))) (Asks (inR .i64 2) (Q (AV.int .u32 (Int.emod (Int.ofNat (Nat.xor (Int.toNat (Int.emod (Int.emod (Int.ofNat (Nat.xor 0 (Int.toNat (Int.emod (Int.ofNat (Sha.rot (Int.toNat x) (Int.toNat (-(0-a))))) 4294967296)))) 4294967296) 4294967296)) (Int.toNat (Int.emod (Int.ofNat (Sha.rot (Int.toNat x) (Int.toNat (-(0-b))))) 4294967296)))) 4294967296))))))))):=by kernel_rfl
theorem mixed3_vc (x a b c : Int) (Q : AV → Prop) : (kb [kRot] [] 164 [.int .u32 x, intsAV [a, b, c]] Q) = (Asks (inR .i64 (0 - a)) (Asks (decide (0 ≤ x) && decide (x < 4294967296) && decide ((-31 : Int) ≤ 0 - a) && decide (0 - a ≤ (-1 : Int))) (Asks (inR .i64 1) (Asks (inR .i64 (0 - b)) (Asks (decide (0 ≤ x) && decide (x < 4294967296) && decide ((-31 : Int) ≤ 0 - b) && decide (0 - b ≤ (-1 : Int))) (Asks (inR .i64 2) (Asks (inR .i64 (0 - c)) (Asks (decide (0 ≤ x) && decide (x < 4294967296) && decide ((-31 : Int) ≤ 0 - c) && decide (0 - c ≤ (-1 : Int))) (Asks (inR .i64 3) (Q (AV.int .u32 (Int.emod (Int.ofNat (Nat.xor (Int.toNat (Int.emod (Int.emod (Int.ofNat (Nat.xor (Int.toNat (Int.emod (Int.emod (Int.ofNat (Nat.xor 0 (Int.toNat (Int.emod (Int.ofNat (Sha.rot (Int.toNat x) (Int.toNat (-(0 - a))))) 4294967296)))) 4294967296) 4294967296)) (Int.toNat (Int.emod (Int.ofNat (Sha.rot (Int.toNat
 x) (Int.toNat (-(0 - b))))) 4294967296)))) 4294967296) 4294967296)) (Int.toNat (Int.emod (Int.ofNat (Sha.rot (Int.toNat x) (Int.toNat (-(0 - c))))) 4294967296)))) 4294967296)))))))))))) := by kernel_rfl
def B32 (n:Nat): Prop:=n<4294967296
theorem m32 {n:Nat} (h:B32 n): Int.emod (Int.ofNat n) 4294967296=Int.ofNat n:=Int.emod_eq_of_lt (by show (0:Int)≤(n:Int);omega) (by show (n:Int)<_;exact Int.ofNat_lt.2 h)
theorem B32.xor {a b:Nat} (h:B32 a) (k:B32 b): B32 (Nat.xor a b):=Nat.xor_lt_two_pow (n:=32) h k
theorem B32.and {a b:Nat} (h:B32 a): B32 (Nat.land a b):=Nat.lt_of_le_of_lt Nat.and_le_left h
theorem B32.rot {a n:Nat} (h:B32 a): B32 (Sha.rot a n):=rot_lt h
theorem B32.add {a b:Nat}: B32 (Sha.add32 a b):=Nat.mod_lt _ (by omega)
theorem m32_add (a b:Nat): Int.emod (Int.ofNat a+Int.ofNat b) 4294967296=Int.ofNat (Sha.add32 a b):=by
 show ((a:Int)+(b:Int))%4294967296=((a+b)%4294967296:Nat)
 omega
def mix2 (x a b:Nat): Nat:=Nat.xor (Sha.rot x a) (Sha.rot x b)
def mix3 (x a b c:Nat): Nat:=Nat.xor (Nat.xor (Sha.rot x a) (Sha.rot x b)) (Sha.rot x c)
theorem zero_xor (a:Nat): Nat.xor 0 a=a:=Nat.zero_xor a
theorem mixed2_ok {x a b:Nat} (hx:B32 x) (ha:1≤a∧a≤31) (hb:1≤b∧b≤31): CallGives PP II 164 [.int .u32 x,intsAV [a,b]] (AH.blank 12) (.ret (.int .u32 (mix2 x a b)) (AH.blank 12)):=by
 refine of_kb (ks:=[kRot]) (T:=[]) (fun _=>⟨rfl,rfl⟩) ((mixed2_vc x a b _).mpr ?_)
 have e1:(-((0:Int)-(a:Int))).toNat=a:=by omega
 have e2:(-((0:Int)-(b:Int))).toNat=b:=by omega
 have e0:Int.toNat (x:Int)=x:=rfl
 have r1:=B32.rot (n:=a) hx
 have r2:=B32.rot (n:=b) hx
 simp only [e0,e1,e2,m32 r1,m32 r2,zero_xor,toNat_ofNat,m32 (r1.xor r2)]
 have hx':x<4294967296:=hx
 repeat' (first | with_reducible exact trivial | with_reducible rfl | with_reducible exact RowsLe.same fun _ _=>atI_le _ _ _ | with_reducible refine EqN.mk ?_ ?_ | with_reducible refine EqI.mk ?_ ?_ | with_reducible refine EqB.mk ?_ ?_ | with_reducible refine Asks.mk ?_ ?_ | with_reducible refine And.intro ?_ ?_)
 ·exact inR_small (by omega) (by omega)
 ·simp;omega
 ·rfl
 ·exact inR_small (by omega) (by omega)
 ·simp;omega
 ·rfl
 ·rfl
theorem mixed3_ok {x a b c:Nat} (hx:B32 x) (ha:1≤a∧a≤31) (hb:1≤b∧b≤31) (hc:1≤c∧c≤31): CallGives PP II 164 [.int .u32 x,intsAV [a,b,c]] (AH.blank 12) (.ret (.int .u32 (mix3 x a b c)) (AH.blank 12)):=by
 refine of_kb (ks:=[kRot]) (T:=[]) (fun _=>⟨rfl,rfl⟩) ((mixed3_vc x a b c _).mpr ?_)
 have e1:(-((0:Int)-(a:Int))).toNat=a:=by omega
 have e2:(-((0:Int)-(b:Int))).toNat=b:=by omega
 have e3:(-((0:Int)-(c:Int))).toNat=c:=by omega
 have e0:Int.toNat (x:Int)=x:=rfl
 have r1:=B32.rot (n:=a) hx
 have r2:=B32.rot (n:=b) hx
 have r3:=B32.rot (n:=c) hx
 simp only [e0,e1,e2,e3,m32 r1,m32 r2,m32 r3,zero_xor,toNat_ofNat,m32 (r1.xor r2),m32 ((r1.xor r2).xor r3)]
 have hx':x<4294967296:=hx
 repeat' (first | with_reducible exact trivial | with_reducible rfl | with_reducible exact RowsLe.same fun _ _=>atI_le _ _ _ | with_reducible refine EqN.mk ?_ ?_ | with_reducible refine EqI.mk ?_ ?_ | with_reducible refine EqB.mk ?_ ?_ | with_reducible refine Asks.mk ?_ ?_ | with_reducible refine And.intro ?_ ?_)
 ·exact inR_small (by omega) (by omega)
 ·simp;omega
 ·rfl
 ·exact inR_small (by omega) (by omega)
 ·simp;omega
 ·rfl
 ·exact inR_small (by omega) (by omega)
 ·simp;omega
 ·rfl
 ·rfl
def isRot (a:Int): Bool:=decide (1≤a)&&decide (a≤31)
noncomputable def kMixed:Known PP II:=Known.pure 164
 (fun X args kn=>match args with
  | [.int .u32 x,.fslice 2 1 f]=>match f 0,f 1 with
   | [.int .i64 a],[.int .i64 b]=>X.assert (decide (0≤x)&&decide (x<4294967296)&&isRot a&&isRot b) (kn (.int .u32 (mix2 x.toNat a.toNat b.toNat)))
   | _,_=>X.fail
  | [.int .u32 x,.fslice 3 1 f]=>match f 0,f 1,f 2 with
   | [.int .i64 a],[.int .i64 b],[.int .i64 c]=>X.assert (decide (0≤x)&&decide (x<4294967296)&&isRot a&&isRot b&&isRot c) (kn (.int .u32 (mix3 x.toNat a.toNat b.toNat c.toNat)))
   | _,_,_=>X.fail
  | _=>X.fail)
 fun X sem hX args kn h=>by
  split at h
  ·rename_i x f
   split at h
   ·rename_i a b h0 h1
    obtain ⟨h2,h3⟩:=hX.assert _ _ h
    simp only [Bool.and_eq_true,decide_eq_true_eq,isRot] at h2
    obtain ⟨⟨⟨p1,p2⟩,pa⟩,pb⟩:=h2
    refine ⟨_,h3,fun _=>rfl,fun _=>rfl,?_⟩
    have:=mixed2_ok (x:=x.toNat) (a:=a.toNat) (b:=b.toNat) (by show x.toNat<_;omega) (by omega) (by omega)
    rw [Int.toNat_of_nonneg p1] at this
    refine this.argsLe ⟨⟨rfl,rfl⟩,⟨rfl,rfl,fun i hi=>?_⟩,trivial⟩
    match i,hi with
    | 0,_=>rw [h0];exact ⟨⟨rfl,by show a=(a.toNat:Int);omega⟩,trivial⟩
    | 1,_=>rw [h1];exact ⟨⟨rfl,by show b=(b.toNat:Int);omega⟩,trivial⟩
   ·exact absurd h hX.fail
  ·rename_i x f
   split at h
   ·rename_i a b c h0 h1 h2
    obtain ⟨h3,h4⟩:=hX.assert _ _ h
    simp only [Bool.and_eq_true,decide_eq_true_eq,isRot] at h3
    obtain ⟨⟨⟨⟨p1,p2⟩,pa⟩,pb⟩,pc⟩:=h3
    refine ⟨_,h4,fun _=>rfl,fun _=>rfl,?_⟩
    have:=mixed3_ok (x:=x.toNat) (a:=a.toNat) (b:=b.toNat) (c:=c.toNat) (by show x.toNat<_;omega) (by omega) (by omega) (by omega)
    rw [Int.toNat_of_nonneg p1] at this
    refine this.argsLe ⟨⟨rfl,rfl⟩,⟨rfl,rfl,fun i hi=>?_⟩,trivial⟩
    match i,hi with
    | 0,_=>rw [h0];exact ⟨⟨rfl,by show a=(a.toNat:Int);omega⟩,trivial⟩
    | 1,_=>rw [h1];exact ⟨⟨rfl,by show b=(b.toNat:Int);omega⟩,trivial⟩
    | 2,_=>rw [h2];exact ⟨⟨rfl,by show c=(c.toNat:Int);omega⟩,trivial⟩
   ·exact absurd h hX.fail
  ·exact absurd h hX.fail
end Go.Sx
end
section
set_option maxRecDepth 1000000
namespace Go.Sx
open Go
def bRow (b:Nat→Int) (i:Nat): List AV:=[.int .u8 (b i)]
def blkAV (b:Nat→Int): AV:=.fslice 64 1 (bRow b)
def wRow (W:Nat→Int) (j:Nat): List AV:=[.int .u32 (W j)]
def wCells (W:Nat→Int): List AV:=(List.range 64).map fun j=> .int .u32 (W j)
def upd (W:Nat→Int) (k:Nat) (x:Int) (j:Nat): Int:=if j=k then x else W j
noncomputable def h163 (W:Nat→Int): AH:={n:=13,t:=Tr.ofList [(12,.rows 64 1 (wRow W) (.ty 236))]}
noncomputable def s163a (b:Nat→Int) (i:Int×(Nat→Int)): St:={t:=Tr.ofList [(0,blkAV b),(2,.ptr 12 0 0 0),(7,.int .i64 i.1)],nt:=84,H:=h163 i.2,df:=[]}
noncomputable def s163b (i:Int×(Nat→Int)): St:={t:=Tr.ofList [(2,.ptr 12 0 0 0),(4,.int .i64 i.1)],nt:=84,H:=h163 i.2,df:=[]}
noncomputable def e163a (W:Nat→Int): GE:=.one (.x 0 {t:=Tr.ofList [(2,.ptr 12 0 0 0)],nt:=84,H:=h163 W,df:=[]})
noncomputable def e163b (W:Nat→Int): GE:=.one (.x 2 {t:=Tr.ofList [(2,.ptr 12 0 0 0)],nt:=84,H:={n:=13,t:=Tr.ofList [(12,.cells (wCells W) (.ty 236))]},df:=[]})
def wordI (b:Nat→Int) (k:Nat): Int:=b k*16777216+b (k+1)*65536+b (k+2)*256+b (k+3)
def nextI (W:Nat→Int) (i:Nat): Int:=(Sha.add32 (Sha.add32 (Sha.add32 (W (i-16)).toNat (Sha.sig0 (W (i-15)).toNat)) (W (i-7)).toNat) (Sha.sig1 (W (i-2)).toNat): Nat)
theorem scha_step (b W' : Nat → Int) (i : Int) (W : Nat → Int) (Q : Prop) : (kr [] [] 163 2001 13 (s163a b) (fun _ => e163a W') (fun i => (i.1 + 1, upd i.2 i.1.toNat (wordI b (4 * i.1.toNat)))) Q (i, W)) = (Cond (decide (i < 16)) (Asks (inR .i64 (4 * i)) (Asks (decide (0 ≤ 4 * i) && decide (4 * i < 64)) (Asks (inR .i64 (4 * i)) (Asks (inR .i64 (4 * i + 1)) (Asks (decide (0 ≤ 4 * i + 1) && decide (4 * i + 1 < 64)) (Asks (inR .i64 (4 * i)) (Asks (inR .i64 (4 * i + 2)) (Asks (decide (0 ≤ 4 * i + 2) && decide (4 * i + 2 < 64)) (Asks (inR .i64 (4 * i)) (Asks (inR .i64 (4 * i + 3)) (Asks (decide (0 ≤ 4 * i + 3) && decide (4 * i + 3 < 64)) (Asks (decide (0 ≤ i) && decide (i < 64)) (Asks (decide (Int.toNat i < 64)) (Asks (inR .i64 (i + 1)) (RowsLe 64 (fun i_1 => bif decide (i_1 = Int.toNat i) then [AV.int .u32 (Int.emod (Int.ofNat (Nat.lor (Int.toNat (Int.emod (Int.emod (Int.ofNat (Nat.lor
 (Int.toNat (Int.emod (Int.emod (Int.ofNat (Nat.lor (Int.toNat (Int.emod (Int.emod (Int.emod (b (Int.toNat (4 * i))) 4294967296 * 16777216) 4294967296) 4294967296)) (Int.toNat (Int.emod (Int.emod (Int.emod (b (Int.toNat (4 * i + 1))) 4294967296 * 65536) 4294967296) 4294967296)))) 4294967296) 4294967296)) (Int.toNat (Int.emod (Int.emod (Int.emod (b (Int.toNat (4 * i + 2))) 4294967296 * 256) 4294967296) 4294967296)))) 4294967296) 4294967296)) (Int.toNat (Int.emod (Int.emod (b (Int.toNat (4 * i + 3))) 4294967296) 4294967296)))) 4294967296)] else wRow W i_1) (wRow fun j => if j = Int.toNat i then wordI b (4 * Int.toNat i) else W j) ∧ EqI (i + 1) (i + 1) (RowsLe 64 (bRow b) (bRow b) ∧ Q)))))))))))))))) (RowsLe 64 (wRow W) (wRow W') ∧ True)) := by kernel_rfl
theorem schb_step (W' : Nat → Int) (i : Int) (W : Nat → Int) (Q : Prop) : (kr [kMixed] [] 163 7002 13 s163b (fun _ => e163b W') (fun i => (i.1 + 1, upd i.2 i.1.toNat (nextI i.2 i.1.toNat))) Q (i, W)) = (Cond (decide (i < 64)) (Asks (inR .i64 (i - 15)) (Asks (decide (0 ≤ i - 15) && decide (i - 15 < 64)) (Asks (decide (Int.toNat (i - 15) < 64)) (Asks (inR .i64 (i - 2)) (Asks (decide (0 ≤ i - 2) && decide (i - 2 < 64)) (Asks (decide (Int.toNat (i - 2) < 64)) (Asks (inR .i64 (i - 16)) (Asks (decide (0 ≤ i - 16) && decide (i - 16 < 64)) (Asks (decide (Int.toNat (i - 16) < 64)) (Asks (decide (0 ≤ W (Int.toNat (i - 15))) && decide (W (Int.toNat (i - 15)) < 4294967296) && true && true) (Asks (decide (Int.toNat (i - 16) < 64)) (Asks (decide (W (Int.toNat (i - 16)) = W (Int.toNat (i - 16)))) (Asks (inR .i64 (i - 7)) (Asks (decide (0 ≤ i - 7) && decide (i - 7 < 64)) (Asks (decide (Int.toNat (i - 7)
 < 64)) (Asks (decide (Int.toNat (i - 7) < 64)) (Asks (decide (W (Int.toNat (i - 7)) = W (Int.toNat (i - 7)))) (Asks (decide (0 ≤ W (Int.toNat (i - 2))) && decide (W (Int.toNat (i - 2)) < 4294967296) && true && true) (Asks (decide (Int.toNat (i - 7) < 64)) (Asks (decide (W (Int.toNat (i - 7)) = W (Int.toNat (i - 7)))) (Asks (decide (Int.toNat (i - 16) < 64)) (Asks (decide (W (Int.toNat (i - 16)) = W (Int.toNat (i - 16)))) (Asks (decide (0 ≤ i) && decide (i < 64)) (Asks (decide (Int.toNat i < 64)) (Asks (inR .i64 (i + 1)) (RowsLe 64 (fun i_1 => bif decide (i_1 = Int.toNat i) then [AV.int .u32 (Int.emod (Int.emod (Int.emod (W (Int.toNat (i - 16)) + Int.emod (Int.ofNat (Nat.xor (Int.toNat (Int.emod (Int.ofNat (mix2 (Int.toNat (W (Int.toNat (i - 15)))) 7 18)) 4294967296)) (Int.toNat (Int.emod (Int.fdiv (W (Int.toNat (i - 15))) 8) 4294967296)))) 4294967296) 4294967296 + W (Int.toNat (i - 7)))
 4294967296 + Int.emod (Int.ofNat (Nat.xor (Int.toNat (Int.emod (Int.ofNat (mix2 (Int.toNat (W (Int.toNat (i - 2)))) 17 19)) 4294967296)) (Int.toNat (Int.emod (Int.fdiv (W (Int.toNat (i - 2))) 1024) 4294967296)))) 4294967296) 4294967296)] else wRow W i_1) (wRow fun j => if j = Int.toNat i then nextI W (Int.toNat i) else W j) ∧ EqI (i + 1) (i + 1) Q)))))))))))))))))))))))))) (EqI (W 0) (W' 0) (EqI (W 1) (W' 1) (EqI (W 2) (W' 2) (EqI (W 3) (W' 3) (EqI (W 4) (W' 4) (EqI (W 5) (W' 5) (EqI (W 6) (W' 6) (EqI (W 7) (W' 7) (EqI (W 8) (W' 8) (EqI (W 9) (W' 9) (EqI (W 10) (W' 10) (EqI (W 11) (W' 11) (EqI (W 12) (W' 12) (EqI (W 13) (W' 13) (EqI (W 14) (W' 14) (EqI (W 15) (W' 15) (EqI (W 16) (W' 16) (EqI (W 17) (W' 17) (EqI (W 18) (W' 18) (EqI (W 19) (W' 19) (EqI (W 20) (W' 20) (EqI (W 21) (W' 21) (EqI (W 22) (W' 22) (EqI (W 23) (W' 23) (EqI (W 24) (W' 24) (EqI (W 25) (W' 25) (EqI (W 26) (W' 26) (EqI
 (W 27) (W' 27) (EqI (W 28) (W' 28) (EqI (W 29) (W' 29) (EqI (W 30) (W' 30) (EqI (W 31) (W' 31) (EqI (W 32) (W' 32) (EqI (W 33) (W' 33) (EqI (W 34) (W' 34) (EqI (W 35) (W' 35) (EqI (W 36) (W' 36) (EqI (W 37) (W' 37) (EqI (W 38) (W' 38) (EqI (W 39) (W' 39) (EqI (W 40) (W' 40) (EqI (W 41) (W' 41) (EqI (W 42) (W' 42) (EqI (W 43) (W' 43) (EqI (W 44) (W' 44) (EqI (W 45) (W' 45) (EqI (W 46) (W' 46) (EqI (W 47) (W' 47) (EqI (W 48) (W' 48) (EqI (W 49) (W' 49) (EqI (W 50) (W' 50) (EqI (W 51) (W' 51) (EqI (W 52) (W' 52) (EqI (W 53) (W' 53) (EqI (W 54) (W' 54) (EqI (W 55) (W' 55) (EqI (W 56) (W' 56) (EqI (W 57) (W' 57) (EqI (W 58) (W' 58) (EqI (W 59) (W' 59) (EqI (W 60) (W' 60) (EqI (W 61) (W' 61) (EqI (W 62) (W' 62) (EqI (W 63) (W' 63) True))))))))))))))))))))))))))))))))))))))))))))))))))))))))))))))))) := by kernel_rfl
theorem sched_vc (b W W' : Nat → Int) (Q : AV → Prop) : (kb [kMixed] [(2001, 13, s163a b (0, fun _ => 0), e163a W), (7002, 13, s163b (16, W), e163b W')] 163 [blkAV b] Q) = (LoopAt PP II false (loopOf II 163 2001) 13 (s163a b (0, fun x => 0)) (e163a W) ∧ RowsLe 64 (cutRow [AV.int .u32 0, AV.int .u32 0, AV.int .u32 0, AV.int .u32 0, AV.int .u32 0, AV.int .u32 0, AV.int .u32 0, AV.int .u32 0, AV.int .u32 0, AV.int .u32 0, AV.int .u32 0, AV.int .u32 0, AV.int .u32 0, AV.int .u32 0, AV.int .u32 0, AV.int .u32 0, AV.int .u32 0, AV.int .u32 0, AV.int .u32 0, AV.int .u32 0, AV.int .u32 0, AV.int .u32 0, AV.int .u32 0, AV.int .u32 0, AV.int .u32 0, AV.int .u32 0, AV.int .u32 0, AV.int .u32 0, AV.int .u32 0, AV.int .u32 0, AV.int .u32 0, AV.int .u32 0, AV.int .u32 0, AV.int .u32 0, AV.int .u32 0, AV.int .u32 0, AV.int .u32 0, AV.int .u32 0, AV.int .u32 0, AV.int .u32 0, AV.int .u32 0, AV.int .u32
 0, AV.int .u32 0, AV.int .u32 0, AV.int .u32 0, AV.int .u32 0, AV.int .u32 0, AV.int .u32 0, AV.int .u32 0, AV.int .u32 0, AV.int .u32 0, AV.int .u32 0, AV.int .u32 0, AV.int .u32 0, AV.int .u32 0, AV.int .u32 0, AV.int .u32 0, AV.int .u32 0, AV.int .u32 0, AV.int .u32 0, AV.int .u32 0, AV.int .u32 0, AV.int .u32 0, AV.int .u32 0] 1) (wRow fun x => 0) ∧ RowsLe 64 (bRow b) (bRow b) ∧ LoopAt PP II false (loopOf II 163 7002) 13 (s163b (16, W)) (e163b W') ∧ RowsLe 64 (wRow W) (wRow W) ∧ Q (AV.agg [AV.int .u32 (W' 0), AV.int .u32 (W' 1), AV.int .u32 (W' 2), AV.int .u32 (W' 3), AV.int .u32 (W' 4), AV.int .u32 (W' 5), AV.int .u32 (W' 6), AV.int .u32 (W' 7), AV.int .u32 (W' 8), AV.int .u32 (W' 9), AV.int .u32 (W' 10), AV.int .u32 (W' 11), AV.int .u32 (W' 12), AV.int .u32 (W' 13), AV.int .u32 (W' 14), AV.int .u32 (W' 15), AV.int .u32 (W' 16), AV.int .u32 (W' 17), AV.int .u32 (W' 18), AV.int .u32
 (W' 19), AV.int .u32 (W' 20), AV.int .u32 (W' 21), AV.int .u32 (W' 22), AV.int .u32 (W' 23), AV.int .u32 (W' 24), AV.int .u32 (W' 25), AV.int .u32 (W' 26), AV.int .u32 (W' 27), AV.int .u32 (W' 28), AV.int .u32 (W' 29), AV.int .u32 (W' 30), AV.int .u32 (W' 31), AV.int .u32 (W' 32), AV.int .u32 (W' 33), AV.int .u32 (W' 34), AV.int .u32 (W' 35), AV.int .u32 (W' 36), AV.int .u32 (W' 37), AV.int .u32 (W' 38), AV.int .u32 (W' 39), AV.int .u32 (W' 40), AV.int .u32 (W' 41), AV.int .u32 (W' 42), AV.int .u32 (W' 43), AV.int .u32 (W' 44), AV.int .u32 (W' 45), AV.int .u32 (W' 46), AV.int .u32 (W' 47), AV.int .u32 (W' 48), AV.int .u32 (W' 49), AV.int .u32 (W' 50), AV.int .u32 (W' 51), AV.int .u32 (W' 52), AV.int .u32 (W' 53), AV.int .u32 (W' 54), AV.int .u32 (W' 55), AV.int .u32 (W' 56), AV.int .u32 (W' 57), AV.int .u32 (W' 58), AV.int .u32 (W' 59), AV.int .u32 (W' 60), AV.int .u32 (W' 61), AV.int
 .u32 (W' 62), AV.int .u32 (W' 63)])) := by kernel_rfl
theorem nat_of {x:Int} (h:0≤x∧x<4294967296): ∃ a:Nat,x=(a:Int)∧B32 a:=⟨x.toNat,by omega,by show x.toNat<_;omega⟩
theorem shr_eq (a k:Nat) (h:B32 a): Int.toNat (Int.emod (Int.fdiv (a:Int) ((2^k:Nat): Int)) 4294967296)=a>>>k:=by
 rw [Int.fdiv_eq_ediv_of_nonneg _ (Int.natCast_nonneg _),←Int.natCast_ediv,Nat.shiftRight_eq_div_pow]
 have:a/2^k≤a:=Nat.div_le_self _ _
 have h:a<4294967296:=h
 show (((a/2^k:Nat): Int)%4294967296).toNat=_
 generalize a/2^k=p at*
 omega
theorem B32.shr {a:Nat} (h:B32 a) (k:Nat): B32 (a>>>k):=by
 show a>>>k<_
 rw [Nat.shiftRight_eq_div_pow];exact Nat.lt_of_le_of_lt (Nat.div_le_self _ _) h
theorem B32.mix2 {a p q:Nat} (h:B32 a): B32 (mix2 a p q):=(h.rot).xor h.rot
theorem B32.mix3 {a p q r:Nat} (h:B32 a): B32 (mix3 a p q r):=((h.rot).xor h.rot).xor h.rot
theorem next_eq {a b c d:Nat} (_:B32 a) (hb:B32 b) (_:B32 c) (hd:B32 d):
  Int.emod (Int.emod (Int.emod ((a:Int)+Int.emod (Int.ofNat (Nat.xor (Int.toNat (Int.emod (Int.ofNat (mix2 (Int.toNat (b:Int)) 7 18)) 4294967296)) (Int.toNat (Int.emod (Int.fdiv (b:Int) 8) 4294967296)))) 4294967296) 4294967296+(c:Int)) 4294967296+Int.emod (Int.ofNat (Nat.xor (Int.toNat (Int.emod (Int.ofNat (mix2 (Int.toNat (d:Int)) 17 19)) 4294967296)) (Int.toNat (Int.emod (Int.fdiv (d:Int) 1024) 4294967296)))) 4294967296) 4294967296=
   ((Sha.add32 (Sha.add32 (Sha.add32 a (Sha.sig0 b)) c) (Sha.sig1 d): Nat): Int):=by
 have s1:Int.toNat (Int.emod (Int.fdiv (b:Int) 8) 4294967296)=b>>>3:=shr_eq b 3 hb
 have s2:Int.toNat (Int.emod (Int.fdiv (d:Int) 1024) 4294967296)=d>>>10:=shr_eq d 10 hd
 have t1:Nat.xor (mix2 b 7 18) (b>>>3)=Sha.sig0 b:=rfl
 have t2:Nat.xor (mix2 d 17 19) (d>>>10)=Sha.sig1 d:=rfl
 have u1:B32 (Sha.sig0 b):=(hb.mix2 (p:=7) (q:=18)).xor (hb.shr 3)
 have u2:B32 (Sha.sig1 d):=(hd.mix2 (p:=17) (q:=19)).xor (hd.shr 10)
 rw [s1,s2]
 simp only [Int.toNat_natCast,m32 hb.mix2,m32 hd.mix2,toNat_ofNat,t1,t2,m32 u1,m32 u2]
 have e1:Int.emod ((a:Int)+Int.ofNat (Sha.sig0 b)) 4294967296=Int.ofNat (Sha.add32 a (Sha.sig0 b)):=m32_add _ _
 rw [e1]
 have e2:Int.emod (Int.ofNat (Sha.add32 a (Sha.sig0 b))+(c:Int)) 4294967296=Int.ofNat (Sha.add32 (Sha.add32 a (Sha.sig0 b)) c):=m32_add _ _
 rw [e2,m32_add]
 rfl
theorem or_word {a b c d:Nat} (hb:b<256) (hc:c<256) (hd:d<256): Nat.lor (Nat.lor (Nat.lor (a*16777216) (b*65536)) (c*256)) d=a*16777216+b*65536+c*256+d:=by
 have h1:Nat.lor (a*16777216) (b*65536)=a*16777216+b*65536:=by
  have:=Nat.two_pow_add_eq_or_of_lt (b:=b*65536) (i:=24) (by omega) a
  rw [Nat.mul_comm (2^24) a] at this
  exact this.symm
 have h2:Nat.lor (a*16777216+b*65536) (c*256)=a*16777216+b*65536+c*256:=by
  have:=Nat.two_pow_add_eq_or_of_lt (b:=c*256) (i:=16) (by omega) (a*256+b)
  have e:2^16*(a*256+b)=a*16777216+b*65536:=by omega
  rw [e] at this
  exact this.symm
 have h3:Nat.lor (a*16777216+b*65536+c*256) d=a*16777216+b*65536+c*256+d:=by
  have:=Nat.two_pow_add_eq_or_of_lt (b:=d) (i:=8) (by omega) (a*65536+b*256+c)
  have e:2^8*(a*65536+b*256+c)=a*16777216+b*65536+c*256:=by omega
  rw [e] at this
  exact this.symm
 rw [h1,h2,h3]
theorem shl3 {x m:Nat} (hx:B32 x) (h:B32 (x*m)): Int.toNat (Int.emod (Int.emod (Int.emod (x:Int) 4294967296*(m:Int)) 4294967296) 4294967296)=x*m:=by
 have e0:Int.emod (x:Int) 4294967296=(x:Int):=m32 hx
 rw [e0,←Int.natCast_mul]
 have e1:Int.emod ((x*m:Nat): Int) 4294967296=((x*m:Nat): Int):=m32 h
 rw [e1,e1]
 rfl
theorem m32n {n:Nat} (h:B32 n): Int.toNat (Int.emod (Int.emod (Int.ofNat n) 4294967296) 4294967296)=n:=by
 rw [m32 h,m32 h];rfl
theorem word_eq {a b c d:Nat} (ha:a<256) (hb:b<256) (hc:c<256) (hd:d<256):
  Int.emod (Int.ofNat (Nat.lor (Int.toNat (Int.emod (Int.emod (Int.ofNat (Nat.lor (Int.toNat (Int.emod (Int.emod (Int.ofNat (Nat.lor (Int.toNat (Int.emod (Int.emod (Int.emod (a:Int) 4294967296*16777216) 4294967296) 4294967296)) (Int.toNat (Int.emod (Int.emod (Int.emod (b:Int) 4294967296*65536) 4294967296) 4294967296)))) 4294967296) 4294967296)) (Int.toNat (Int.emod (Int.emod (Int.emod (c:Int) 4294967296*256) 4294967296) 4294967296)))) 4294967296) 4294967296)) (Int.toNat (Int.emod (Int.emod (d:Int) 4294967296) 4294967296)))) 4294967296=
   ((a*16777216+b*65536+c*256+d:Nat): Int):=by
 have b1:B32 (a*16777216):=by show _<_;omega
 have b2:B32 (b*65536):=by show _<_;omega
 have b3:B32 (c*256):=by show _<_;omega
 have b4:B32 d:=by show d<_;omega
 have e1:=shl3 (m:=16777216) (show B32 a by show a<_;omega) b1
 have e2:=shl3 (m:=65536) (show B32 b by show b<_;omega) b2
 have e3:=shl3 (m:=256) (show B32 c by show c<_;omega) b3
 have e4:Int.toNat (Int.emod (Int.emod (d:Int) 4294967296) 4294967296)=d:=m32n b4
 have c1:B32 (Nat.lor (a*16777216) (b*65536)):=Nat.or_lt_two_pow (n:=32) b1 b2
 have c2:B32 (Nat.lor (Nat.lor (a*16777216) (b*65536)) (c*256)):=Nat.or_lt_two_pow (n:=32) c1 b3
 have c3:B32 (Nat.lor (Nat.lor (Nat.lor (a*16777216) (b*65536)) (c*256)) d):=Nat.or_lt_two_pow (n:=32) c2 b4
 have e1':Int.toNat (Int.emod (Int.emod (Int.emod (a:Int) 4294967296*16777216) 4294967296) 4294967296)=a*16777216:=e1
 have e2':Int.toNat (Int.emod (Int.emod (Int.emod (b:Int) 4294967296*65536) 4294967296) 4294967296)=b*65536:=e2
 have e3':Int.toNat (Int.emod (Int.emod (Int.emod (c:Int) 4294967296*256) 4294967296) 4294967296)=c*256:=e3
 rw [e1',e2',e3',e4,m32n c1,m32n c2,m32 c3,or_word hb hc hd]
 rfl
theorem updRow {W:Nat→Int} {k:Nat} {x y:Int} (h:x=y): RowsLe 64 (fun j=>bif decide (j=k) then [AV.int .u32 x] else wRow W j) (wRow fun j=>if j=k then y else W j):=by
 intro j _ σ
 by_cases e:j=k
 ·simp only [e,decide_true,cond_true,wRow,if_true,h]
  exact ⟨⟨rfl,rfl⟩,trivial⟩
 ·simp only [e,decide_false,cond_false,wRow,if_false]
  exact ⟨⟨rfl,rfl⟩,trivial⟩
theorem wRow_le (σ:Nat→Nat) (W:Nat→Int) (j:Nat): AVs.le σ (wRow W j) (wRow W j):=⟨⟨rfl,rfl⟩,trivial⟩
theorem bRow_le (σ:Nat→Nat) (W:Nat→Int) (j:Nat): AVs.le σ (bRow W j) (bRow W j):=⟨⟨rfl,rfl⟩,trivial⟩
def genA (b:Nat→Int): Nat→Nat→Int
 | 0=>fun _=>0
 | k+1=>upd (genA b k) k (wordI b (4*k))
def genB (W:Nat→Int): Nat→Nat→Int
 | 0=>W
 | k+1=>upd (genB W k) (16+k) (nextI (genB W k) (16+k))
def schedI (b:Nat→Int): Nat→Int:=genB (genA b 16) 48
def isB (b:Nat→Int): Prop := ∀ i,i<64→0≤b i∧b i<256
theorem genA_lt {b:Nat→Int} (hb:isB b): ∀ k,k≤16→ ∀ j,0≤genA b k j∧genA b k j<4294967296
 | 0,_,j=>by simp [genA]
 | k+1,hk,j=>by
  simp only [genA,upd]
  by_cases e:j=k
  ·rw [if_pos e]
   have h1:=hb (4*k) (by omega)
   have h2:=hb (4*k+1) (by omega)
   have h3:=hb (4*k+2) (by omega)
   have h4:=hb (4*k+3) (by omega)
   unfold wordI
   omega
  ·rw [if_neg e];exact genA_lt hb k (by omega) j
theorem genB_lt {W:Nat→Int} (hW : ∀ j,0≤W j∧W j<4294967296): ∀ k j,0≤genB W k j∧genB W k j<4294967296
 | 0,j=>hW j
 | k+1,j=>by
  simp only [genB,upd]
  by_cases e:j=16+k
  ·rw [if_pos e]
   unfold nextI
   have:=B32.add (a:=(Sha.add32 (Sha.add32 ((genB W k (16+k-16)).toNat) (Sha.sig0 ((genB W k (16+k-15)).toNat))) ((genB W k (16+k-7)).toNat))) (b:=Sha.sig1 ((genB W k (16+k-2)).toNat))
   exact ⟨Int.natCast_nonneg _,Int.ofNat_lt.2 this⟩
  ·rw [if_neg e];exact genB_lt hW k j
theorem scha_loop {b:Nat→Int} (hb:isB b): LoopAt PP II false (loopOf II 163 2001) 13 (s163a b (0,fun _=>0)) (e163a (genA b 16)):=
 LoopAt.of (ι:=Int×(Nat→Int)) hII [] (lamT_ok PP II []) 1000 13 (fun i=> ∃ k:Nat,k≤16∧i.1=(k:Int)∧i.2=genA b k) (s163a b) (fun _=>e163a (genA b 16)) (fun i=>(16-i.1).toNat) (fun i=>(i.1+1,upd i.2 i.1.toNat (wordI b (4*i.1.toNat)))) (0,fun _=>0) rfl
  ⟨0,by omega,rfl,rfl⟩ fun i hi=>by
  obtain ⟨i,W⟩:=i
  obtain ⟨k,hk,h1,h2⟩:=hi
  change i=(k:Int) at h1
  change W=genA b k at h2
  have hW : ∀ j,0≤W j∧W j<4294967296:=by rw [h2];exact genA_lt hb k hk
  refine (scha_step b (genA b 16) i W _).mpr (Cond.mk (fun h=>?_) fun h=>?_)
  ·simp only [decide_eq_true_eq] at h
   have hk':k<16:=by omega
   have n0:Int.toNat (4*i)=4*k:=by omega
   have n1:Int.toNat (4*i+1)=4*k+1:=by omega
   have n2:Int.toNat (4*i+2)=4*k+2:=by omega
   have n3:Int.toNat (4*i+3)=4*k+3:=by omega
   have ni:Int.toNat i=k:=by omega
   have R : ∀ c:Int,0≤c→c≤3→inR .i64 (4*i+c)=true:=fun c h1 h2=>inR_small (by omega) (by omega)
   have R0:inR .i64 (4*i)=true:=inR_small (by omega) (by omega)
   have D : ∀ c:Int,0≤c→c≤3→(decide (0≤4*i+c)&&decide (4*i+c<64))=true:=fun c h1 h2=>by simp;omega
   have D0:(decide (0≤4*i)&&decide (4*i<64))=true:=by simp;omega
   obtain ⟨x0,hx0,y0⟩: ∃ x:Nat,b (4*k)=(x:Int)∧x<256:=⟨(b (4*k)).toNat,by have:=hb (4*k) (by omega);omega,by have:=hb (4*k) (by omega);omega⟩
   obtain ⟨x1,hx1,y1⟩: ∃ x:Nat,b (4*k+1)=(x:Int)∧x<256:=⟨(b (4*k+1)).toNat,by have:=hb (4*k+1) (by omega);omega,by have:=hb (4*k+1) (by omega);omega⟩
   obtain ⟨x2,hx2,y2⟩: ∃ x:Nat,b (4*k+2)=(x:Int)∧x<256:=⟨(b (4*k+2)).toNat,by have:=hb (4*k+2) (by omega);omega,by have:=hb (4*k+2) (by omega);omega⟩
   obtain ⟨x3,hx3,y3⟩: ∃ x:Nat,b (4*k+3)=(x:Int)∧x<256:=⟨(b (4*k+3)).toNat,by have:=hb (4*k+3) (by omega);omega,by have:=hb (4*k+3) (by omega);omega⟩
   have ew:wordI b (4*k)=((x0*16777216+x1*65536+x2*256+x3:Nat): Int):=by unfold wordI;rw [hx0,hx1,hx2,hx3];omega
   have hj:(∃ k':Nat,k'≤16∧i+1=((k':Nat): Int)∧upd W k (wordI b (4*k))=genA b k'):=⟨k+1,by omega,by omega,by rw [h2];rfl⟩
   simp only [n0,n1,n2,n3,ni,hx0,hx1,hx2,hx3]
   repeat' (first | with_reducible exact trivial | with_reducible rfl | with_reducible exact RowsLe.same fun _ _=>wRow_le _ _ _ | with_reducible exact RowsLe.same fun _ _=>bRow_le _ _ _ | with_reducible refine EqN.mk ?_ ?_ | with_reducible refine EqI.mk ?_ ?_ | with_reducible refine EqB.mk ?_ ?_ | with_reducible refine Asks.mk ?_ ?_ | with_reducible refine And.intro ?_ ?_)
   ·exact R0
   ·exact D0
   ·exact R0
   ·exact R 1 (by omega) (by omega)
   ·exact D 1 (by omega) (by omega)
   ·exact R0
   ·exact R 2 (by omega) (by omega)
   ·exact D 2 (by omega) (by omega)
   ·exact R0
   ·exact R 3 (by omega) (by omega)
   ·exact D 3 (by omega) (by omega)
   ·simp;omega
   ·simp;omega
   ·exact inR_small (by omega) (by omega)
   ·exact updRow ((word_eq y0 y1 y2 y3).trans ew.symm)
   ·exact hj
   ·show (16-(i+1)).toNat<(16-i).toNat;omega
  ·simp only [decide_eq_false_iff_not] at h
   have:k=16:=by omega
   subst this
   rw [h2]
   repeat' (first | with_reducible exact trivial | with_reducible rfl | with_reducible exact RowsLe.same fun _ _=>wRow_le _ _ _ | with_reducible exact RowsLe.same fun _ _=>bRow_le _ _ _ | with_reducible refine EqN.mk ?_ ?_ | with_reducible refine EqI.mk ?_ ?_ | with_reducible refine EqB.mk ?_ ?_ | with_reducible refine Asks.mk ?_ ?_ | with_reducible refine And.intro ?_ ?_)
theorem schb_loop {W0:Nat→Int} (h0 : ∀ j,0≤W0 j∧W0 j<4294967296): LoopAt PP II false (loopOf II 163 7002) 13 (s163b (16,W0)) (e163b (genB W0 48)):=
 LoopAt.of (ι:=Int×(Nat→Int)) hII [kMixed] (lamT_ok PP II []) 1000 13 (fun i=> ∃ k:Nat,k≤48∧i.1=16+(k:Int)∧i.2=genB W0 k) s163b (fun _=>e163b (genB W0 48)) (fun i=>(64-i.1).toNat) (fun i=>(i.1+1,upd i.2 i.1.toNat (nextI i.2 i.1.toNat))) (16,W0) rfl
  ⟨0,by omega,rfl,rfl⟩ fun i hi=>by
  obtain ⟨i,W⟩:=i
  obtain ⟨k,hk,h1,h2⟩:=hi
  change i=16+(k:Int) at h1
  change W=genB W0 k at h2
  have hW : ∀ j,0≤W j∧W j<4294967296:=by rw [h2];exact genB_lt h0 k
  refine (schb_step (genB W0 48) i W _).mpr (Cond.mk (fun h=>?_) fun h=>?_)
  ·simp only [decide_eq_true_eq] at h
   have n15:Int.toNat (i-15)=16+k-15:=by omega
   have n2:Int.toNat (i-2)=16+k-2:=by omega
   have n16:Int.toNat (i-16)=16+k-16:=by omega
   have n7:Int.toNat (i-7)=16+k-7:=by omega
   have ni:Int.toNat i=16+k:=by omega
   obtain ⟨a,ha,a'⟩:=nat_of (hW (16+k-16))
   obtain ⟨b,hb,b'⟩:=nat_of (hW (16+k-15))
   obtain ⟨c,hc,c'⟩:=nat_of (hW (16+k-7))
   obtain ⟨d,hd,d'⟩:=nat_of (hW (16+k-2))
   have en:nextI W (16+k)=((Sha.add32 (Sha.add32 (Sha.add32 a (Sha.sig0 b)) c) (Sha.sig1 d): Nat): Int):=by
    unfold nextI;rw [ha,hb,hc,hd];rfl
   have hj:(∃ k':Nat,k'≤48∧i+1=16+((k':Nat): Int)∧upd W (16+k) (nextI W (16+k))=genB W0 k'):=⟨k+1,by omega,by omega,by rw [h2];rfl⟩
   have I64 : ∀ c:Int,0≤c→c≤16→inR .i64 (i-c)=true:=fun c h1 h2=>inR_small (by omega) (by omega)
   have D : ∀ c:Int,0≤c→c≤16→(decide (0≤i-c)&&decide (i-c<64))=true:=fun c h1 h2=>by simp;omega
   have L : ∀ c,decide (16+k-c<64)=true:=fun c=>by simp;omega
   have b'':b<4294967296:=b'
   have d'':d<4294967296:=d'
   simp only [n15,n2,n16,n7,ni,ha,hb,hc,hd,L,decide_true]
   repeat' (first | with_reducible exact trivial | with_reducible rfl | with_reducible exact RowsLe.same fun _ _=>wRow_le _ _ _ | with_reducible exact RowsLe.same fun _ _=>bRow_le _ _ _ | with_reducible refine EqN.mk ?_ ?_ | with_reducible refine EqI.mk ?_ ?_ | with_reducible refine EqB.mk ?_ ?_ | with_reducible refine Asks.mk ?_ ?_ | with_reducible refine And.intro ?_ ?_)
   ·exact I64 15 (by omega) (by omega)
   ·exact D 15 (by omega) (by omega)
   ·exact I64 2 (by omega) (by omega)
   ·exact D 2 (by omega) (by omega)
   ·exact I64 16 (by omega) (by omega)
   ·exact D 16 (by omega) (by omega)
   ·simp;omega
   ·exact I64 7 (by omega) (by omega)
   ·exact D 7 (by omega) (by omega)
   ·simp;omega
   ·simp;omega
   ·simp;omega
   ·exact inR_small (by omega) (by omega)
   ·exact updRow ((next_eq a' b' c' d').trans en.symm)
   ·exact hj
   ·show (64-(i+1)).toNat<(64-i).toNat;omega
  ·simp only [decide_eq_false_iff_not] at h
   have:k=48:=by omega
   subst this
   rw [h2]
   repeat' (first | with_reducible exact trivial | with_reducible rfl | with_reducible exact RowsLe.same fun _ _=>wRow_le _ _ _ | with_reducible exact RowsLe.same fun _ _=>bRow_le _ _ _ | with_reducible refine EqN.mk ?_ ?_ | with_reducible refine EqI.mk ?_ ?_ | with_reducible refine EqB.mk ?_ ?_ | with_reducible refine Asks.mk ?_ ?_ | with_reducible refine And.intro ?_ ?_)
theorem zeroRow:RowsLe 64 (cutRow (List.replicate 64 (AV.int .u32 0)) 1) (wRow fun _=>0):=by
 intro i hi σ
 have:cutRow (List.replicate 64 (AV.int .u32 0)) 1 i=[AV.int .u32 0]:=by
  unfold cutRow
  rw [List.drop_replicate,List.take_replicate]
  have:min 1 (64-i*1)=1:=by omega
  rw [this];rfl
 rw [this]
 exact ⟨⟨rfl,rfl⟩,trivial⟩
theorem sched_ok {b:Nat→Int} (hb:isB b): CallGives PP II 163 [blkAV b] (AH.blank 12) (.ret (.agg (wCells (schedI b))) (AH.blank 12)):=by
 refine of_kb (ks:=[kMixed]) (T:=[(2001,13,s163a b (0,fun _=>0),e163a (genA b 16)),(7002,13,s163b (16,genA b 16),e163b (schedI b))]) (fun σ=>?_) ((sched_vc b (genA b 16) (schedI b) _).mpr ?_)
 ·show AVs.le σ (wCells (schedI b)) (wCells (schedI b))
  unfold wCells
  generalize List.range 64=l
  induction l with
  | nil=>trivial
  | cons a l ih=>exact ⟨⟨rfl,rfl⟩,ih⟩
 ·repeat' (first | with_reducible exact trivial | with_reducible rfl | with_reducible exact RowsLe.same fun _ _=>wRow_le _ _ _ | with_reducible exact RowsLe.same fun _ _=>bRow_le _ _ _ | with_reducible refine EqN.mk ?_ ?_ | with_reducible refine EqI.mk ?_ ?_ | with_reducible refine EqB.mk ?_ ?_ | with_reducible refine Asks.mk ?_ ?_ | with_reducible refine And.intro ?_ ?_)
  ·exact scha_loop hb
  ·exact zeroRow
  ·exact schb_loop (genA_lt hb 16 (by omega))
  ·rfl
def bytesOk (n:Nat) (f:Nat→List AV): Bool:=(List.range n).all fun i=>match f i with | [.int .u8 x]=>decide (0≤x)&&decide (x<256) | _=>false
def byteOf (f:Nat→List AV) (i:Nat): Int:=match f i with | [.int .u8 x]=>x | _=>0
theorem bytesOk_at {n:Nat} {f:Nat→List AV} (h:bytesOk n f=true) {i:Nat} (hi:i<n): f i=[.int .u8 (byteOf f i)]∧0≤byteOf f i∧byteOf f i<256:=by
 have:=List.all_eq_true.1 h i (List.mem_range.2 hi)
 unfold byteOf
 split at this
 ·rename_i x hx;rw [hx];simpa using this
 ·cases this
noncomputable def kSched:Known PP II:=Known.pure 163
 (fun X args kn=>match args with
  | [.fslice 64 1 f]=>X.assert (bytesOk 64 f) (kn (.agg (wCells (schedI (byteOf f)))))
  | _=>X.fail)
 fun X sem hX args kn h=>by
  split at h
  ·rename_i f
   obtain ⟨h1,h2⟩:=hX.assert _ _ h
   refine ⟨_,h2,fun σ=>?_,fun _=>rfl,(sched_ok fun i hi=>(bytesOk_at h1 hi).2).argsLe ⟨⟨rfl,rfl,fun i hi=>?_⟩,trivial⟩⟩
   ·show AV.agg (AVs.ren σ (wCells _))=_
    rw [AVs.ren_eq]
    unfold wCells
    rw [List.map_map]
    rfl
   ·rw [(bytesOk_at h1 hi).1]
    exact ⟨⟨rfl,rfl⟩,trivial⟩
  ·exact absurd h hX.fail
end Go.Sx
end
section
namespace Go.Sx
open Go
theorem CallGives.lift1g {P:Program} {I:Info} {f:FuncId} {args args':List AV} {a a':AV} {b':ABlk} {H0 H:AH} {l:Nat} (h:CallGives P I f args H0 (.ret a (H0.set I.G b')))
  (hn:H0.n=I.G+1) (hlow : ∀ i,I.G+1≤i→H0.get i= .dead) (hbase : ∀ i,i<I.G→H0.get i≠ .dead→H.get i=H0.get i∧ ∀ σ,(H0.get i).ren σ=H0.get i)
  (hG:I.G≤l) (hl:l<H.n) (hb:H.get l=H0.get I.G)
  (h1 : ∀ σ,(H0.get I.G).ren σ=H0.get I.G) (h2 : ∀ σ,b'.ren σ=b') (h3 : ∀ σ,σ I.G=l→AVs.ren σ args=args') (h4 : ∀ σ,σ I.G=l→a.ren σ=a') (hd:H0.get I.G≠ .dead): CallGives P I f args' H (.ret a' (H.set l b')):=by
 intro c ρ w vs hGc hv hr
 let σ:Nat→Nat:=fun i=>if i<I.G then i else if i=I.G then l else H.n+(i-(I.G+1))
 have σG:σ I.G=l:=by simp [σ]
 have σlt : ∀ i,i<I.G→σ i=i:=fun i hi=>by simp only [σ,if_pos hi]
 have σge : ∀ i,I.G+1≤i→σ i=H.n+(i-(I.G+1)):=fun i hi=>by
  simp only [σ]
  rw [if_neg (by omega),if_neg (by omega)]
 have hlive : ∀ i,H0.get i≠ .dead→i<I.G+1:=fun i hi=>Nat.lt_of_not_le fun e=>hi (hlow i e)
 have hs:Sub I.G σ H0 H :=
  {lt:=fun i hi=>by
    rw [hn] at hi
    by_cases e:i=I.G
    ·rw [e,σG];exact hl
    ·rw [σlt i (by omega)];omega
   ge:=fun i hi=>by rw [hn] at hi⊢;exact σge i hi
   same:=fun i hi=>by
    have hlt:=hlive i hi
    by_cases e:i=I.G
    ·rw [e,σG,hb,h1]
    ·have hlt:i<I.G:=by omega
     rw [σlt i hlt,(hbase i hlt hi).2,(hbase i hlt hi).1]
   inj:=fun i j hi hj e=>by
    have hi:=hlive i hi
    have hj:=hlive j hj
    by_cases e1:i=I.G
    ·by_cases e2:j=I.G
     ·rw [e1,e2]
     ·rw [e1,σG,σlt j (by omega)] at e;omega
    ·by_cases e2:j=I.G
     ·rw [e2,σG,σlt i (by omega)] at e;omega
     ·rw [σlt i (by omega),σlt j (by omega)] at e;exact e
   glob:=fun g hg=>⟨by rw [hn];omega,σlt g hg⟩
   low:=fun i hi=>hlow i (by rw [hn] at hi;exact hi)}
 have ht:Sup σ H0 (CO.ret a (H0.set I.G b')).heap H (H.set l b'):=
  {n:=by show H.n=H.n+(H0.n-H0.n);omega
   old:=fun i hi=>by
    show (H.set l b').get (σ i)=((H0.set I.G b').get i).ren σ
    have hlt:=hlive i hi
    by_cases e:i=I.G
    ·rw [e,σG,AH.get_set_same,AH.get_set_same,h2]
    ·have hlt:i<I.G:=by omega
     have g1:(H.set l b').get i=H.get i:=AH.get_set_ne _ _ (by omega)
     have g2:(H0.set I.G b').get i=H0.get i:=AH.get_set_ne _ _ (by omega)
     rw [σlt i hlt,g1,g2,(hbase i hlt hi).2,(hbase i hlt hi).1]
   new:=fun i hi=>by
    rw [hn] at hi
    show (H.set l b').get (σ i)=((H0.set I.G b').get i).ren σ
    have g1:(H.set l b').get (H.n+(i-(I.G+1)))=H.get (H.n+(i-(I.G+1))):=AH.get_set_ne _ _ (by omega)
    have g2:(H0.set I.G b').get i=H0.get i:=AH.get_set_ne _ _ (by omega)
    rw [g2,hlow i hi,σge i hi,g1,hr.low _ (by omega)]
    rfl
   rest:=fun i hi hk=>by
    have:i≠l:=fun e=>by
     have hh:=hk I.G hd
     rw [σG] at hh
     exact hh e.symm
    exact AH.get_set_ne _ _ (fun e=>this e.symm)}
 have:=h.lift hs ht
 rw [h3 σ σG] at this
 have e:(CO.ret a (H0.set I.G b')).into σ (H.set l b')= .ret a' (H.set l b'):=by
  show CO.ret (a.ren σ) (H.set l b')=_
  rw [h4 σ σG]
 rw [e] at this
 exact this c ρ w vs hGc hv hr
theorem CallGives.of_heap {P:Program} {I:Info} (hI:I.Ok P) (ks:List (Known P I)) {Λ:Loops Prop} (hΛ:LoopsOk P I id Λ) (fuel:Nat) {f:FuncId} {args:List AV} {a':AV} {H H':AH}
  (h:kbody ks Λ fuel f args H (fun a H1=>ResLq H.n a H1 a' H' True) (fun _ _=>False)): CallGives P I f args H (.ret a' H'):=by
 obtain ⟨o,h1,h2⟩:=kbody_ok hI ks hΛ fuel f args _ _ _ h
 cases o with
 | ret a H1=>exact h2.le (ResLq.ok h1).1
 | pan a H1=>exact h1.elim
def intsAre:List AV→List AV→Bool
 | [],[]=>true
 | .int k i::l,.int k' j::m=>decide (k=k')&&decide (i=j)&&intsAre l m
 | _,_=>false
theorem intsAre_eq : ∀ (l m:List AV),intsAre l m=true→l=m
 | [],[],_=>rfl
 | [],_::_,h=>by simp [intsAre] at h
 | .int k i::l,.int k' j::m,h=>by
  simp only [intsAre,Bool.and_eq_true,decide_eq_true_eq] at h
  rw [h.1.1,h.1.2,intsAre_eq l m h.2]
def roInts (cs:List AV): ABlk→Bool
 | .cells ds .ro=>intsAre ds cs
 | _=>false
theorem roInts_eq {cs:List AV} {b:ABlk} (h:roInts cs b=true): b= .cells cs .ro:=by
 unfold roInts at h
 split at h
 ·rw [intsAre_eq _ _ h]
 ·cases h
theorem CallGives.pureG {P:Program} {I:Info} {f:FuncId} {args:List AV} {a:AV} {H0 H:AH} (h:CallGives P I f args H0 (.ret a H0)) (hn:H0.n=I.G) (hlow : ∀ i,I.G≤i→H0.get i= .dead)
  (hbase : ∀ i,i<I.G→H0.get i≠ .dead→H.get i=H0.get i∧ ∀ σ,(H0.get i).ren σ=H0.get i) (hargs : ∀ σ,AVs.ren σ args=args) (ha : ∀ σ,a.ren σ=a):
  CallGives P I f args H (.ret a H):=by
 intro c ρ w vs hG hv hr
 have hGn:I.G≤H.n:=by
  rw [←hG]
  refine Nat.le_of_not_lt fun hlt=>?_
  obtain ⟨N,hN⟩:=hr.glob H.n hlt
  rw [hr.top _ (Nat.le_refl _)] at hN;cases hN
 let σ:Nat→Nat:=fun l=>if l<I.G then l else H.n+(l-I.G)
 have σlt : ∀ i,i<I.G→σ i=i:=fun i hi=>by simp only [σ,if_pos hi]
 have hlive : ∀ i,H0.get i≠ .dead→i<I.G:=fun i hi=>Nat.lt_of_not_le fun e=>hi (hlow i e)
 have hs:Sub I.G σ H0 H :=
  {lt:=fun l hl=>by rw [hn] at hl;rw [σlt l hl];omega
   ge:=fun l hl=>by
    rw [hn] at hl⊢
    have : ¬ l<I.G:=Nat.not_lt.2 hl
    simp only [σ,if_neg this]
   same:=fun l hl=>by rw [σlt l (hlive l hl),(hbase l (hlive l hl) hl).2,(hbase l (hlive l hl) hl).1]
   inj:=fun l l' h1 h2 e=>by rw [σlt l (hlive l h1),σlt l' (hlive l' h2)] at e;exact e
   glob:=fun g hg=>⟨by rw [hn];exact hg,σlt g hg⟩
   low:=fun l hl=>hlow l (by rw [hn] at hl;exact hl)}
 have ht:Sup σ H0 (CO.ret a H0).heap H H :=
  {n:=by show H.n=H.n+(H0.n-H0.n);omega
   old:=fun l hl=>by
    show H.get (σ l)=(H0.get l).ren σ
    rw [σlt l (hlive l hl),(hbase l (hlive l hl) hl).2,(hbase l (hlive l hl) hl).1]
   new:=fun l hl=>by
    rw [hn] at hl
    have : ¬ l<I.G:=Nat.not_lt.2 hl
    show H.get (σ l)=(H0.get l).ren σ
    rw [hlow l hl]
    simp only [σ,if_neg this]
    rw [hr.low _ (by omega)]
    rfl
   rest:=fun _ _ _=>rfl}
 have:=h.lift hs ht
 rw [hargs] at this
 have e:(CO.ret a H0).into σ H= .ret a H:=by
  show CO.ret (a.ren σ) H=_
  rw [ha]
 rw [e] at this
 exact this c ρ w vs hG hv hr
end Go.Sx
end
