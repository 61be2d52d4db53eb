/- Lemmas, part 11. -/
set_option linter.all false
set_option linter.defProp false
section
namespace Go.Iy
def force{α:Type}(n:Nat)(K:Nat->α): α:=match n with|0=>K 0|m+1=>K (m+1)
theorem force_eq{α:Type}(n:Nat)(K:Nat->α):force n K=K n:=by cases n<;>rfl
def Ak(x n:Nat):Nat:=Nat.lor (Nat.shiftRight x n) (Nat.mod (Nat.shiftLeft x (Nat.sub 32 n)) 4294967296)
def ij(a b:Nat):Nat:=Nat.mod (Nat.add a b) 4294967296
def Wo(a:Nat):Nat:=Nat.sub 4294967295 a
def Wp(x:Nat):Nat:=Nat.xor (Nat.xor (Ak x 7) (Ak x 18)) (Nat.shiftRight x 3)
def Wq(x:Nat):Nat:=Nat.xor (Nat.xor (Ak x 17) (Ak x 19)) (Nat.shiftRight x 10)
def XK(x:Nat):Nat:=Nat.xor (Nat.xor (Ak x 2) (Ak x 13)) (Ak x 22)
def XL(x:Nat):Nat:=Nat.xor (Nat.xor (Ak x 6) (Ak x 11)) (Ak x 25)
def LF:List Nat:=[0x428a2f98,0x71374491,0xb5c0fbcf,0xe9b5dba5,0x3956c25b,0x59f111f1,0x923f82a4,0xab1c5ed5,0xd807aa98,0x12835b01,0x243185be,0x550c7dc3,0x72be5d74,0x80deb1fe,0x9bdc06a7,0xc19bf174,0xe49b69c1,0xefbe4786,0x0fc19dc6,0x240ca1cc,0x2de92c6f,0x4a7484aa,0x5cb0a9dc,0x76f988da,0x983e5152,0xa831c66d,0xb00327c8,0xbf597fc7,0xc6e00bf3,0xd5a79147,0x06ca6351,0x14292967,0x27b70a85,0x2e1b2138,0x4d2c6dfc,0x53380d13,0x650a7354,0x766a0abb,0x81c2c92e,0x92722c85,0xa2bfe8a1,0xa81a664b,0xc24b8b70,0xc76c51a3,0xd192e819,0xd6990624,0xf40e3585,0x106aa070,0x19a4c116,0x1e376c08,0x2748774c,0x34b0bcb5,0x391c0cb3,0x4ed8aa4a,0x5b9cca4f,0x682e6ff3,0x748f82ee,0x78a5636f,0x84c87814,0x8cc70208,0x90befffa,0xa4506ceb,0xbef9a3f7,0xc67178f2]
def Wr(l:List Nat):Nat:=ij (ij (ij (l.getD 15 0) (Wp (l.getD 14 0))) (l.getD 6 0)) (Wq (l.getD 1 0))
def sched:Nat->List Nat->List Nat
 |0,l=>l
 |n+1,l=>force (Wr l) λx=>sched n (x::l)
structure W8 where
 a:Nat
 b:Nat
 c:Nat
 d:Nat
 e:Nat
 f:Nat
 g:Nat
 h:Nat
def round(v:W8)(k w:Nat):W8 :=
 let t:=ij (ij (ij (ij v.h (XL v.e)) (Nat.xor (Nat.land v.e v.f) (Nat.land (Wo v.e) v.g))) k) w
 let u:=ij (XK v.a) (Nat.xor (Nat.xor (Nat.land v.a v.b) (Nat.land v.a v.c)) (Nat.land v.b v.c))
 force (ij t u) λa=>force (ij v.d t) λe=>⟨a,v.a,v.b,v.c,e,v.e,v.f,v.g⟩
def rounds:W8->List Nat->List Nat->W8
 |v,k::ks,w::ws=>match round v k w with|⟨a,b,c,d,e,f,g,h⟩=>rounds ⟨a,b,c,d,e,f,g,h⟩ ks ws
 |v,_,_=>v
def word(a b c d:UInt8):Nat:=Nat.add (Nat.add (Nat.add (Nat.mul a.toNat 16777216) (Nat.mul b.toNat 65536)) (Nat.mul c.toNat 256)) d.toNat
def GG:List UInt8->List Nat
 |a::b::c::d::l=>force (word a b c d) λx=>x::GG l
 |_=>[]
def block(h:W8)(b:List UInt8):W8 :=
 match rounds h LF (sched 48 (GG b).reverse).reverse with
 |⟨a,b,c,d,e,f,g,i⟩=>force (ij h.a a) λa=>force (ij h.b b) λb=>force (ij h.c c) λc=>force (ij h.d d) λd=>force (ij h.e e) λe=>force (ij h.f f) λf=>force (ij h.g g) λg=>force (ij h.h i) λi=>⟨a,b,c,d,e,f,g,i⟩
def blocks:Nat->W8->List UInt8->W8
 |0,h,_=>h
 |n+1,h,l=>match block h (l.take 64)with|⟨a,b,c,d,e,f,g,i⟩=>blocks n ⟨a,b,c,d,e,f,g,i⟩ (l.drop 64)
def bytesOf(x:Nat):List UInt8:=[UInt8.ofNat (Nat.div x 16777216),UInt8.ofNat (Nat.div x 65536),UInt8.ofNat (Nat.div x 256),UInt8.ofNat x]
def Ws(n:Nat):Nat:=(119-n%64)%64
def LG(s:List UInt8):List UInt8 :=
 s++128::(List.replicate (Ws s.length) 0++(List.range 8).map λi=>UInt8.ofNat (8*s.length/2^(8*(7-i))))
def iv:W8:=⟨0x6a09e667,0xbb67ae85,0x3c6ef372,0xa54ff53a,0x510e527f,0x9b05688c,0x1f83d9ab,0x5be0cd19⟩
def sum(s:List UInt8):List UInt8 :=
 match blocks ((LG s).length/64) iv (LG s)with
 |⟨a,b,c,d,e,f,g,h⟩=>bytesOf a++bytesOf b++bytesOf c++bytesOf d++bytesOf e++bytesOf f++bytesOf g++bytesOf h
end Go.Iy
end
