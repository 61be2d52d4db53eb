/- Lemmas, part 41. -/
import Derived.Test.YtoijalagmmgkbaaGreatDoorX40
set_option linter.all false
set_option linter.defProp false
section
set_option maxRecDepth 1000000
namespace Go.Sx
open Go
theorem abD(q:Query)(k:Nat)(F:Nat->ay)(D:Nat->List UInt8)(p:Nat)(Z:Nat->Int)(RN:Nat)(RA:Nat->Nat->Int)(RB:Nat->Nat->List UInt8)(i:Int)(e:Nat->List UInt8)(c:Int)(u:Nat->ay)(x:Nat->List UInt8)(n:Int)(kp:Bool)(g:Int->Nat)(f B:Int->List UInt8)(cE:Nat)(aE bE:List UInt8)(m:Int)(Q:Prop):(kr [W4,VK,TL] [] 5 34004 43 (ZA q k F D p Z RN RA RB i e c u x n kp g f B) (λ_=>ZE q k F D p Z RN RA RB i e c u x n cE aE bE) (λm=>m+1) Q m)=(let E:=(decide (0<=m)&&decide (m<Int.ofNat k));let H:=(decide (D m.toNat=D m.toNat)&&true);let L:=(RO [49] [49] [49] (D m.toNat));let j:=(RG [49] [49] [49] (D m.toNat));let r:=(RH [49] [49] [49] (D m.toNat));let N:=(Ed (f m) (B m) [49] (D m.toNat));let O:=(zS (f m) (B m) [49] (D m.toNat));let P:=(zT (f m) (B m) [49] (D m.toNat));let R:=(aa E (ah (!kp) (aa H (aa L (aa (Ed (f m) (B m) j r) (aa (aN .i64 (m+1)) (ax (g m+1) (g (m+1)) (an (g m+1) (λi=>bif Nat.blt i (g m)then gW u x i else List.take 12 (List.drop (0+(i-g m)*12) [AV.int .i64 (ay.t (F m.toNat)),AV.int .i64 (ay.s (F m.toNat)),AV.int .i64 (ay.v (F m.toNat)),AV.int .i64 (ay.w (F m.toNat)),AV.int .i64 (ay.o (F m.toNat)),AV.int .i64 (ay.p (F m.toNat)),AV.int .i64 (ay.d (F m.toNat)),AV.int .i64 (ay.l (F m.toNat)),AV.int .i64 (ay.h (F m.toNat)),AV.int .i64 (ay.b (F m.toNat)),AV.str [49],AV.str (D m.toNat)])) (gW u x)/\bI (zS (f m) (B m) j r) (f (m+1)) (bI (zT (f m) (B m) j r) (B (m+1)) (zyB (e 0) (zyB (e 1) (zyB (e 2) (zyB (e 3) (zyB (e 4) (zyB (e 5) (zyB (e 6) (zyB (e 7) (zyB (e 8) (zyB (e 9) (zyB (e 10) (zyB (e 11) (zyN p (zyR p (ae Z) (zyN q.nw (zyR q.nw (au q.C) (zyN q.ng (zyR q.ng (aR q.G) (zyI q.a (zyI q.fl (zyB q.nu (zyB q.de (zyI q.top (zyB [49] (zyB [49] (zyB [48] (zyB [49] (zyB [48] (zyB [49] (zyR 5 aA (zyI i (true=true/\zyI (m+1) (zyI n (zyN RN (zyR RN (aX q.ng RA RB) (ax (g m+1) (g (m+1)) (zyN k (zyR k (gW F D) (zyI c (zyN p (false=false/\kp=kp/\Q)))))))))))))))))))))))))))))))))))))))))))))))) (aa N (aa (aN .i64 (m+1)) (ax (g m+1) (g (m+1)) (an (g m+1) (λi=>bif Nat.blt i (g m)then gW u x i else List.take 12 (List.drop (0+(i-g m)*12) [AV.int .i64 (ay.t (F m.toNat)),AV.int .i64 (ay.s (F m.toNat)),AV.int .i64 (ay.v (F m.toNat)),AV.int .i64 (ay.w (F m.toNat)),AV.int .i64 (ay.o (F m.toNat)),AV.int .i64 (ay.p (F m.toNat)),AV.int .i64 (ay.d (F m.toNat)),AV.int .i64 (ay.l (F m.toNat)),AV.int .i64 (ay.h (F m.toNat)),AV.int .i64 (ay.b (F m.toNat)),AV.str [49],AV.str (D m.toNat)])) (gW u x)/\bI O (f (m+1)) (bI P (B (m+1)) (zyB (e 0) (zyB (e 1) (zyB (e 2) (zyB (e 3) (zyB (e 4) (zyB (e 5) (zyB (e 6) (zyB (e 7) (zyB (e 8) (zyB (e 9) (zyB (e 10) (zyB (e 11) (zyN p (zyR p (ae Z) (zyN q.nw (zyR q.nw (au q.C) (zyN q.ng (zyR q.ng (aR q.G) (zyI q.a (zyI q.fl (zyB q.nu (zyB q.de (zyI q.top (zyB [49] (zyB [49] (zyB [48] (zyB [49] (zyB [48] (zyB [49] (zyR 5 aA (zyI i (true=true/\zyI (m+1) (zyI n (zyN RN (zyR RN (aX q.ng RA RB) (ax (g m+1) (g (m+1)) (zyN k (zyR k (gW F D) (zyI c (zyN p (false=false/\kp=kp/\Q))))))))))))))))))))))))))))))))))))))))))))))));let y:=(true=true/\zyI (m+1) (zyI n (zyN RN (zyR RN (aX q.ng RA RB) (ax (g m) (g (m+1)) (zyN k (zyR k (gW F D) (zyI c (zyN p (false=false/\kp=kp/\Q))))))))));let I:=(decide (0<=n)&&decide (n<Int.ofNat p));let J:=(decide (ay.t (F (Int.toNat (m-1)))=Z n.toNat));let K:=(decide (0<=m-1)&&decide (m-1<Int.ofNat k));(ah (decide (m<Int.ofNat k)) (aa E (aa I (aa (decide (n.toNat<p)) (ah (!decide (ay.t (F m.toNat)=Z n.toNat)) (aa (aN .i64 (m+1)) (ax (g m) (g (m+1)) (zyR (g m) (gW u x) (bI (f m) (f (m+1)) (bI (B m) (B (m+1)) (zyB (e 0) (zyB (e 1) (zyB (e 2) (zyB (e 3) (zyB (e 4) (zyB (e 5) (zyB (e 6) (zyB (e 7) (zyB (e 8) (zyB (e 9) (zyB (e 10) (zyB (e 11) (zyN p (zyR p (ae Z) (zyN q.nw (zyR q.nw (au q.C) (zyN q.ng (zyR q.ng (aR q.G) (zyI q.a (zyI q.fl (zyB q.nu (zyB q.de (zyI q.top (zyB [49] (zyB [49] (zyB [48] (zyB [49] (zyB [48] (zyB [49] (zyR 5 aA (zyI i y)))))))))))))))))))))))))))))))))))) (ah kp (aa E (aa (decide (g m<=g m)&&true&&true&&decide ((g m+1)*112<=140737488355328)&&true) (ah (decide (m>0)) (aa (aN .i64 (m-1)) (aa K (aa I (aa (decide (n.toNat<p)) (ah J (aa (aN .i64 (m+1)) (ax (g m+1) (g (m+1)) (an (g m+1) (λi=>bif Nat.blt i (g m)then gW u x i else List.take 12 (List.drop (0+(i-g m)*12) [AV.int .i64 (ay.t (F m.toNat)),AV.int .i64 (ay.s (F m.toNat)),AV.int .i64 (ay.v (F m.toNat)),AV.int .i64 (ay.w (F m.toNat)),AV.int .i64 (ay.o (F m.toNat)),AV.int .i64 (ay.p (F m.toNat)),AV.int .i64 (ay.d (F m.toNat)),AV.int .i64 (ay.l (F m.toNat)),AV.int .i64 (ay.h (F m.toNat)),AV.int .i64 (ay.b (F m.toNat)),AV.str [49],AV.str (D m.toNat)])) (gW u x)/\bI (f m) (f (m+1)) (bI (B m) (B (m+1)) (zyB (e 0) (zyB (e 1) (zyB (e 2) (zyB (e 3) (zyB (e 4) (zyB (e 5) (zyB (e 6) (zyB (e 7) (zyB (e 8) (zyB (e 9) (zyB (e 10) (zyB (e 11) (zyN p (zyR p (ae Z) (zyN q.nw (zyR q.nw (au q.C) (zyN q.ng (zyR q.ng (aR q.G) (zyI q.a (zyI q.fl (zyB q.nu (zyB q.de (zyI q.top (zyB [49] (zyB [49] (zyB [48] (zyB [49] (zyB [48] (zyB [49] (zyR 5 aA (zyI i (true=true/\zyI (m+1) (zyI n (zyN RN (zyR RN (aX q.ng RA RB) (ax (g m+1) (g (m+1)) (zyN k (zyR k (gW F D) (zyI c (zyN p (false=false/\kp=kp/\Q))))))))))))))))))))))))))))))))))))))))))))) R))))) R))) (ah (decide (m>0)) (aa (aN .i64 (m-1)) (aa K (aa I (aa (decide (n.toNat<p)) (ah J (aa (aN .i64 (m+1)) (ax (g m) (g (m+1)) (zyR (g m) (gW u x) (bI (f m) (f (m+1)) (bI (B m) (B (m+1)) (zyB (e 0) (zyB (e 1) (zyB (e 2) (zyB (e 3) (zyB (e 4) (zyB (e 5) (zyB (e 6) (zyB (e 7) (zyB (e 8) (zyB (e 9) (zyB (e 10) (zyB (e 11) (zyN p (zyR p (ae Z) (zyN q.nw (zyR q.nw (au q.C) (zyN q.ng (zyR q.ng (aR q.G) (zyI q.a (zyI q.fl (zyB q.nu (zyB q.de (zyI q.top (zyB [49] (zyB [49] (zyB [48] (zyB [49] (zyB [48] (zyB [49] (zyR 5 aA (zyI i y)))))))))))))))))))))))))))))))))))) (aa E (ah (!kp) (aa H (aa L (aa (Ed (f m) (B m) j r) (aa (aN .i64 (m+1)) (ax (g m) (g (m+1)) (zyR (g m) (gW u x) (bI (zS (f m) (B m) j r) (f (m+1)) (bI (zT (f m) (B m) j r) (B (m+1)) (zyB (e 0) (zyB (e 1) (zyB (e 2) (zyB (e 3) (zyB (e 4) (zyB (e 5) (zyB (e 6) (zyB (e 7) (zyB (e 8) (zyB (e 9) (zyB (e 10) (zyB (e 11) (zyN p (zyR p (ae Z) (zyN q.nw (zyR q.nw (au q.C) (zyN q.ng (zyR q.ng (aR q.G) (zyI q.a (zyI q.fl (zyB q.nu (zyB q.de (zyI q.top (zyB [49] (zyB [49] (zyB [48] (zyB [49] (zyB [48] (zyB [49] (zyR 5 aA (zyI i y))))))))))))))))))))))))))))))))))))))) (aa N (aa (aN .i64 (m+1)) (ax (g m) (g (m+1)) (zyR (g m) (gW u x) (bI O (f (m+1)) (bI P (B (m+1)) (zyB (e 0) (zyB (e 1) (zyB (e 2) (zyB (e 3) (zyB (e 4) (zyB (e 5) (zyB (e 6) (zyB (e 7) (zyB (e 8) (zyB (e 9) (zyB (e 10) (zyB (e 11) (zyN p (zyR p (ae Z) (zyN q.nw (zyR q.nw (au q.C) (zyN q.ng (zyR q.ng (aR q.G) (zyI q.a (zyI q.fl (zyB q.nu (zyB q.de (zyI q.top (zyB [49] (zyB [49] (zyB [48] (zyB [49] (zyB [48] (zyB [49] (zyR 5 aA (zyI i y)))))))))))))))))))))))))))))))))))))))))))) (aa E (ah (!kp) (aa H (aa L (aa (Ed (f m) (B m) j r) (aa (aN .i64 (m+1)) (ax (g m) (g (m+1)) (zyR (g m) (gW u x) (bI (zS (f m) (B m) j r) (f (m+1)) (bI (zT (f m) (B m) j r) (B (m+1)) (zyB (e 0) (zyB (e 1) (zyB (e 2) (zyB (e 3) (zyB (e 4) (zyB (e 5) (zyB (e 6) (zyB (e 7) (zyB (e 8) (zyB (e 9) (zyB (e 10) (zyB (e 11) (zyN p (zyR p (ae Z) (zyN q.nw (zyR q.nw (au q.C) (zyN q.ng (zyR q.ng (aR q.G) (zyI q.a (zyI q.fl (zyB q.nu (zyB q.de (zyI q.top (zyB [49] (zyB [49] (zyB [48] (zyB [49] (zyB [48] (zyB [49] (zyR 5 aA (zyI i y))))))))))))))))))))))))))))))))))))))) (aa N (aa (aN .i64 (m+1)) (ax (g m) (g (m+1)) (zyR (g m) (gW u x) (bI O (f (m+1)) (bI P (B (m+1)) (zyB (e 0) (zyB (e 1) (zyB (e 2) (zyB (e 3) (zyB (e 4) (zyB (e 5) (zyB (e 6) (zyB (e 7) (zyB (e 8) (zyB (e 9) (zyB (e 10) (zyB (e 11) (zyN p (zyR p (ae Z) (zyN q.nw (zyR q.nw (au q.C) (zyN q.ng (zyR q.ng (aR q.G) (zyI q.a (zyI q.fl (zyB q.nu (zyB q.de (zyI q.top (zyB [49] (zyB [49] (zyB [48] (zyB [49] (zyB [48] (zyB [49] (zyR 5 aA (zyI i y))))))))))))))))))))))))))))))))))))))))))))) (ax (g m) cE (zyR (g m) (gW u x) (bI (f m) aE (bI (B m) bE (zyB (e 0) (zyB (e 1) (zyB (e 2) (zyB (e 3) (zyB (e 4) (zyB (e 5) (zyB (e 6) (zyB (e 7) (zyB (e 8) (zyB (e 9) (zyB (e 10) (zyB (e 11) (zyN p (zyR p (ae Z) (zyN q.nw (zyR q.nw (au q.C) (zyN q.ng (zyR q.ng (aR q.G) (zyI q.a (zyI q.fl (zyB q.nu (zyB q.de (zyI q.top (zyB [49] (zyB [49] (zyB [48] (zyB [49] (zyB [48] (zyB [49] (zyR 5 aA (zyI i (true=true/\zyI n (zyN RN (zyR RN (aX q.ng RA RB) (ax (g m) cE (zyN k (zyR k (gW F D) (zyI c (zyN p (false=false/\True)))))))))))))))))))))))))))))))))))))))))))))):=U
end Go.Sx
end
section
set_option maxRecDepth 1000000
namespace Go.Sx
open Go
noncomputable def UL(q:Query)(cs:List AV)(k:Nat)(h:Nat->List AV):Bool:=(decide (q.a=1)||decide (q.a=2))&&decide (q.top=0)&&qT q cs&&ct q&&aan k h&&cX k (Oq h)&&VS k (Oq h) (VO h)&&aby q k (Oq h)
open Classical in
noncomputable def XO(q:Query)(a:Nat)(b:Nat->Nat->Int)(SB:Nat->Nat->List UInt8)(k:Nat)(h:Nat->List AV):Bool:=decide (r8 q k (Oq h)=a/\FM q k (Oq h)=b/\AS q k (Oq h) (VO h)=SB)
open Classical in
theorem aaX{q:Query}{a:Nat}{b:Nat->Nat->Int}{SB:Nat->Nat->List UInt8}{k:Nat}{h:Nat->List AV}:XO q a b SB k h=true↔r8 q k (Oq h)=a/\FM q k (Oq h)=b/\AS q k (Oq h) (VO h)=SB:=by
 unfold XO
 exact decide_eq_true_iff
theorem aar(q:Query)(k:Nat)(F:Nat->ay)(D:Nat->List UInt8):XO q (r8 q k F) (FM q k F) (AS q k F D) k (gW F D)=true:=aaX.2 ⟨rfl,rfl,rfl⟩
noncomputable def abE(q:Query)(d:Nat)(f:Nat->Nat->Int)(SB:Nat->Nat->List UInt8):aC PP II:=aC.J0 23
 (λX args g=>match args with
  |[.agg cs,.ab k 12 h]=>X.bq (UL q cs k h&&XO q d f SB k h) (g (.qP [.ab d 9 (xu q.ng f SB),.int .i64 0]))
  |_=>X.fail)
 λX sem hX args g h=>by
  split at h
  ·obtain⟨c,i⟩:=hX.bq _ _ h
   unfold UL XO at c
   simp only[bf,Bool.or_eq_true,bn]at c
   obtain⟨⟨⟨⟨⟨⟨⟨⟨a0,j⟩,a1⟩,a2⟩,l⟩,m⟩,n⟩,o⟩,p,r,s⟩:=c
   obtain⟨l1,l2⟩:=mi a1
   have e:Bj q.a q=q:=by cases q;cases j;rfl
   have k:=adz (b:=q.a) (q:=q) a0 (e.symm▸a2) n (e.symm▸o) m
   rw[e,p,r,s]at k
   refine⟨_,i,λ_=>rfl,λσ=>?_,af.dA k l1 (Y6 l)⟩
   show [AV.bD σ (.agg _),_]=_
   rw[l2];rfl
  ·exact zR
open Classical in
noncomputable def Wb(n g:Nat)(f:Nat->List AV)(W:Nat->Int)(T:Nat->List UInt8):Bool:=decide (∀c,c<8->Oj n g (CZ f) (nV f) W c=T c)
theorem aaY{n g:Nat}{f:Nat->List AV}{W:Nat->Int}{T:Nat->List UInt8}:Wb n g f W T=true↔ ∀c,c<8->Oj n g (CZ f) (nV f) W c=T c:=by
 unfold Wb
 exact @decide_eq_true_iff _ (Classical.propDecidable _)
theorem aaZ(n g:Nat)(K:Nat->Nat->Int)(S:Nat->Nat->List UInt8)(W:Nat->Int){c:Nat}(h:c<8):Oj n g (CZ (xu g K S)) (nV (xu g K S)) W c=Oj n g K S W c:=by
 have:c=0∨c=1∨c=2∨c=3∨c=4∨c=5∨c=6∨c=7:=O
 rcases this with rfl|rfl|rfl|rfl|rfl|rfl|rfl|rfl<;>rfl
noncomputable def aas(T:Nat->List UInt8):aC PP II:=aC.pure 24
 (λX args c=>match args with
  |[.ab n 9 f,.ab g 1 h]=>X.bq (Z3 g n f&&bA g h&&Nat.ble n 1000000&&Nat.ble g 1000000&&Wb n g f (aM h) T) (c (.agg [.ab g 1 (ae (aM h)),.str (T 0),.str (T 1),.str (T 2),.str (T 3),.str (T 4),.str (T 5),.str (T 6),.str (T 7)]))
  |_=>X.fail)
 λX sem hX args c h=>by
  split at h
  ·rename_i n f g d
   obtain⟨b,e⟩:=hX.bq _ _ h
   unfold Wb at b
   simp only[bf,bn]at b
   obtain⟨⟨⟨⟨a1,a2⟩,i⟩,j⟩,a⟩:=b
   have k:=af.dA (abB (jX i) (jX j) (CZ f) (nV f) (aM d)) (abA a1) (cy a2)
   unfold Zd at k
   rw[a 0 zC,a 1 zC,a 2 zC,a 3 zC,a 4 zC,a 5 zC,a 6 zC,a 7 zC]at k
   exact⟨_,e,λ_=>rfl,λ_=>rfl,k⟩
  ·exact zR
end Go.Sx
end
section
set_option maxRecDepth 1000000
namespace Go.Sx
open Go
theorem acG(q:Query)(k:Nat)(F:Nat->ay)(D:Nat->List UInt8)(p:Nat)(Z:Nat->Int)(RN:Nat)(RA:Nat->Nat->Int)(RB:Nat->Nat->List UInt8)(i:Int)(b:Nat->List UInt8)(c:Int)(f:Nat->ay)(g:Nat->List UInt8)(h:Int->Nat)(d B:Int->List UInt8)(kp:Bool)(m:Int->Nat)(o r:Int->List UInt8)(e:Nat)(j l:List UInt8)(cE:Nat)(aE bE:List UInt8)(n:Int)(Q:Prop):(kr [] [(34004,43,ZA q k F D p Z RN RA RB i b c f g n kp m o r 0,ZE q k F D p Z RN RA RB i b c f g n e j l)] 5 30004 42 (Q1 q k F D p Z RN RA RB i b c f g h d B) (λ_=>Tp q k F D p Z RN RA RB i b c f g cE aE bE) (λn=>n+1) Q n)=(ah (decide (n<Int.ofNat p)) (aa (decide (0<=n)) (eu PP II false (aD II 5 34004) 43 (ZA q k F D p Z RN RA RB i b c f g n kp m o r 0) (ZE q k F D p Z RN RA RB i b c f g n e j l)/\ax (h n) (m 0) (zyR (h n) (gW f g) (bI (d n) (o 0) (bI (B n) (r 0) (zyB (b 0) (zyB (b 1) (zyB (b 2) (zyB (b 3) (zyB (b 4) (zyB (b 5) (zyB (b 6) (zyB (b 7) (zyB (b 8) (zyB (b 9) (zyB (b 10) (zyB (b 11) (zyN p (zyR p (ae Z) (zyN q.nw (zyR q.nw (au q.C) (zyN q.ng (zyR q.ng (aR q.G) (zyI q.a (zyI q.fl (zyB q.nu (zyB q.de (zyI q.top (zyB [49] (zyB [49] (zyB [48] (zyB [49] (zyB [48] (zyB [49] (zyR 5 aA (zyI i (true=true/\zyI n (zyN RN (zyR RN (aX q.ng RA RB) (ax (h n) (m 0) (zyN k (zyR k (gW F D) (zyI c (zyN p (false=false/\decide (Int.tmod (Int.fdiv c (Int.pow 2 (min n.toNat 64))) 2=1)=kp/\aa (aN .i64 (n+1)) (ax e (h (n+1)) (zyR e (gW f g) (bI j (d (n+1)) (bI l (B (n+1)) (zyB (b 0) (zyB (b 1) (zyB (b 2) (zyB (b 3) (zyB (b 4) (zyB (b 5) (zyB (b 6) (zyB (b 7) (zyB (b 8) (zyB (b 9) (zyB (b 10) (zyB (b 11) (zyN p (zyR p (ae Z) (zyN q.nw (zyR q.nw (au q.C) (zyN q.ng (zyR q.ng (aR q.G) (zyI q.a (zyI q.fl (zyB q.nu (zyB q.de (zyI q.top (zyB [49] (zyB [49] (zyB [48] (zyB [49] (zyB [48] (zyB [49] (zyR 5 aA (zyI i (true=true/\zyI (n+1) (zyN RN (zyR RN (aX q.ng RA RB) (ax e (h (n+1)) (zyN k (zyR k (gW F D) (zyI c (zyN p (false=false/\Q))))))))))))))))))))))))))))))))))))))))))))))))))))))))))))))))))))))))))))))))))))))))) (ax (h n) cE (zyR (h n) (gW f g) (bI (d n) aE (bI (B n) bE (zyB (b 0) (zyB (b 1) (zyB (b 2) (zyB (b 3) (zyB (b 4) (zyB (b 5) (zyB (b 6) (zyB (b 7) (zyB (b 8) (zyB (b 9) (zyB (b 10) (zyB (b 11) (zyN p (zyR p (ae Z) (zyN q.nw (zyR q.nw (au q.C) (zyN q.ng (zyR q.ng (aR q.G) (zyI q.a (zyI q.fl (zyB q.nu (zyB q.de (zyI q.top (zyB [49] (zyB [49] (zyB [48] (zyB [49] (zyB [48] (zyB [49] (zyR 5 aA (zyI i (true=true/\zyN RN (zyR RN (aX q.ng RA RB) (ax (h n) cE (zyN k (zyR k (gW F D) (zyI c (zyN p (false=false/\True)))))))))))))))))))))))))))))))))))))))))))):=U
end Go.Sx
end
section
namespace Go.Sx
def Hn(W:Nat->Nat):Nat->Nat
 |0=>1
 |n+1=>Hn W n*W n
def Gr(c l:Nat):Bool:=Nat.beq (c/2^l%2) 1
def Rp(d:Nat->Nat)(c n:Nat):Nat:=Hn (λl=>bif Gr c l then 1 else d l-1) n
def Ol(x d:Nat->Nat)(c n:Nat):Nat:=pM (λl=>bif Gr c l then x l*d l else 0) n
def Z4(x d:Nat->Nat)(c n:Nat):Nat:=pM (λl=>bif Gr c l then x l*x l*(d l-1)*d l else 0) n
theorem su{f g}:∀{n},(∀i,i<n->f i=g i)->pM f n=pM g n
 |0,_=>rfl
 |n+1,h=>by show pM f n+f n=pM g n+g n;rw[su λi hi=>h i O,h n O]
theorem Wc{f g}:∀{n},(∀i,i<n->f i=g i)->Hn f n=Hn g n
 |0,_=>rfl
 |n+1,h=>by show Hn f n*f n=Hn g n*g n;rw[Wc λi hi=>h i O,h n O]
theorem RD(f)(a):∀b,pM f (a+b)=pM f a+pM (λi=>f (i+a)) b
 |0=>rfl
 |b+1=>by show pM f (a+b)+f (a+b)=pM f a+(pM _ b+f (b+a));rw[RD f a b,Nat.add_comm b a,Nat.add_assoc]
theorem Tq(a b c)(f g h):∀n,pM (λi=>a*f i+b*g i+c*h i) n=a*pM f n+b*pM g n+c*pM h n
 |0=>rfl
 |n+1=>by show pM _ n+_=a*(pM f n+f n)+b*(pM g n+g n)+c*(pM h n+h n);rw[Tq a b c f g h n];grind
theorem aaE{c n}(h:c<2^n):Gr c n=false/\Gr (c+2^n) n=true/\∀l,l<n->Gr (c+2^n) l=Gr c l:=by
 have a:=Nat.two_pow_pos n
 unfold Gr
 rw[Nat.div_eq_of_lt h,Nat.add_div_right _ a,Nat.div_eq_of_lt h]
 refine⟨rfl,rfl,λl hl=>?_⟩
 obtain⟨m,rfl⟩:∃m,n=l+1+m:=⟨n-l-1,O⟩
 rw[show c+2^(l+1+m)=c+2^l*(2*2^m) by grind,Nat.add_mul_div_left _ _ (Nat.two_pow_pos l),Nat.add_mul_mod_self_left]
theorem V0{d c n}(h:c<2^n):Rp d c (n+1)=Rp d c n*(d n-1)/\Rp d (c+2^n) (n+1)=Rp d c n:=by
 obtain⟨a,b,e⟩:=aaE h
 constructor
 ·show Rp d c n*(bif Gr c n then 1 else d n-1)=_;rw[a];rfl
 ·show Rp d (c+2^n) n*(bif Gr (c+2^n) n then 1 else d n-1)=_
  rw[b]
  refine(Nat.mul_one _).trans (Wc λl hl=>?_)
  rw[e l hl]
theorem W0{f:Nat->Nat}{c n}(h:c<2^n):pM (λl=>bif Gr c l then f l else 0) (n+1)=pM (λl=>bif Gr c l then f l else 0) n/\pM (λl=>bif Gr (c+2^n) l then f l else 0) (n+1)=pM (λl=>bif Gr c l then f l else 0) n+f n:=by
 obtain⟨a,b,e⟩:=aaE h
 constructor
 ·show _+(bif Gr c n then f n else 0)=_;rw[a];rfl
 ·show pM _ n+(bif Gr (c+2^n) n then f n else 0)=_
  rw[b,su λl hl=>by rw[e l hl]];rfl
theorem Zm{d}:∀{n},(∀l,l<n->0<d l)->pM (λc=>Rp d c n) (2^n)=Hn d n
 |0,_=>rfl
 |n+1,h=>by
  have b:=Zm (n:=n) λl hl=>h l O
  rw[Nat.pow_succ,Nat.mul_two,RD,su λc a=>(V0 a).1,su (f:=λi=>Rp d (i+2^n) (n+1)) λc a=>(V0 a).2]
  have:=Tq (d n-1) 0 0 (λc=>Rp d c n) (λc=>Rp d c n) (λc=>Rp d c n) (2^n)
  have k:=h n O
  show _=Hn d n*d n
  rw[su (g:=λc=>(d n-1)*Rp d c n+0*Rp d c n+0*Rp d c n) λc _=>Y,this,b]
  obtain⟨e,j⟩:∃e,d n=e+1:=⟨d n-1,O⟩
  rw[j];grind
theorem Ts{d f}:∀{n},(∀l,l<n->0<d l)->pM (λc=>Rp d c n*pM (λl=>bif Gr c l then f l*d l else 0) n) (2^n)=Hn d n*pM f n
 |0,_=>rfl
 |n+1,h=>by
  have g:=Ts (f:=f) (n:=n) λl hl=>h l O
  have i:=Zm (n:=n) λl hl=>h l O
  have k:=h n O
  rw[Nat.pow_succ,Nat.mul_two,RD]
  have e1:=Tq (d n-1) 0 0 (λc=>Rp d c n*pM (λl=>bif Gr c l then f l*d l else 0) n) (λc=>Rp d c n) (λc=>Rp d c n) (2^n)
  have b:=Tq 1 (f n*d n) 0 (λc=>Rp d c n*pM (λl=>bif Gr c l then f l*d l else 0) n) (λc=>Rp d c n) (λc=>Rp d c n) (2^n)
  rw[g,i]at e1 b
  rw[su (n:=2^n) λc a=>(by rw[(V0 a).1,(W0 (f:=λl=>f l*d l) a).1];grind:_=(d n-1)*(Rp d c n*pM (λl=>bif Gr c l then f l*d l else 0) n)+0*Rp d c n+0*Rp d c n),e1]
  rw[su (n:=2^n) λc a=>(by show Rp d (c+2^n) (n+1)*_=_;rw[(V0 a).2,(W0 (f:=λl=>f l*d l) a).2];grind:_=1*(Rp d c n*pM (λl=>bif Gr c l then f l*d l else 0) n)+f n*d n*Rp d c n+0*Rp d c n),b]
  show _=Hn d n*d n*(pM f n+f n)
  obtain⟨e,j⟩:∃e,d n=e+1:=⟨d n-1,O⟩
  rw[j];grind
theorem Zn{x d}:∀{n},(∀l,l<n->0<d l)->pM (λc=>Rp d c n*(Ol x d c n*Ol x d c n)) (2^n)=Hn d n*(pM x n*pM x n+pM (λl=>x l*x l*(d l-1)) n)
 |0,_=>rfl
 |n+1,h=>by
  have i:=Zn (x:=x) (n:=n) λl hl=>h l O
  have b:=Ts (f:=x) (n:=n) λl hl=>h l O
  have j:=Zm (n:=n) λl hl=>h l O
  have m:=h n O
  have b:pM (λc=>Rp d c n*Ol x d c n) (2^n)=Hn d n*pM x n:=b
  rw[Nat.pow_succ,Nat.mul_two,RD]
  have e1:=Tq (d n-1) 0 0 (λc=>Rp d c n*(Ol x d c n*Ol x d c n)) (λc=>Rp d c n) (λc=>Rp d c n) (2^n)
  have g:=Tq 1 (2*(x n*d n)) (x n*d n*(x n*d n)) (λc=>Rp d c n*(Ol x d c n*Ol x d c n)) (λc=>Rp d c n*Ol x d c n) (λc=>Rp d c n) (2^n)
  rw[i,j]at e1 g
  rw[b]at g
  have l1:∀{c},c<2^n->Ol x d c (n+1)=Ol x d c n:=λa=>(W0 (f:=λl=>x l*d l) a).1
  have l2:∀{c},c<2^n->Ol x d (c+2^n) (n+1)=Ol x d c n+x n*d n:=λa=>(W0 (f:=λl=>x l*d l) a).2
  rw[su (n:=2^n) λc a=>(by rw[(V0 a).1,l1 a];grind:_=(d n-1)*(Rp d c n*(Ol x d c n*Ol x d c n))+0*Rp d c n+0*Rp d c n),e1]
  rw[su (n:=2^n) λc a=>(by show Rp d (c+2^n) (n+1)*_=_;rw[(V0 a).2,l2 a];grind:_=1*(Rp d c n*(Ol x d c n*Ol x d c n))+2*(x n*d n)*(Rp d c n*Ol x d c n)+x n*d n*(x n*d n)*Rp d c n),g]
  show _=Hn d n*d n*((pM x n+x n)*(pM x n+x n)+(pM (λl=>x l*x l*(d l-1)) n+x n*x n*(d n-1)))
  obtain⟨e,k⟩:∃e,d n=e+1:=⟨d n-1,O⟩
  rw[k];grind
end Go.Sx
end
section
namespace Go.Sx
theorem UM(f):∀n,pM f n=((List.range n).map f).sum
 |0=>rfl
 |n+1=>by rw[List.range_succ,List.map_append,List.sum_append,<-UM f n];rfl
theorem UN{T P m k}(h:(List.range m).map T=(List.range k).filter P)(φ:Nat->Nat):pM (λi=>φ (T i)) m=pM (λf=>bif P f then φ f else 0) k:=by
 rw[UM,show(List.range m).map (λi=>φ (T i))=((List.range m).map T).map φ by simp,h,UM]
 induction List.range k with
 |nil=>rfl
 |cons a l b=>
  grind
theorem KB{f n}(h:∀i,i<n->f i=0):pM f n=0:=by
 induction n with
 |zero=>rfl
 |succ n a=>show pM f n+f n=0;grind
theorem XP{f g a}:∀{n},a<n->(∀l,l<n->l≠a->f l=g l)->g a=0->pM f n=pM g n+f a
 |0,h,_,_=>O
 |n+1,h,h1,b=>by
  show pM f n+f n=pM g n+g n+f a
  by_cases e:a=n
  ·subst e
   rw[su (n:=a) λi hi=>h1 i O O,b];omega
  ·rw[XP (n:=n) O Y b,h1 n O (Ne.symm e)];omega
theorem Rk{f B n}(h:∀i,i<n->f i<=B):pM f n<=n*B:=by
 induction n with
 |zero=>exact Nat.zero_le _
 |succ n a=>
  have:=a λi hi=>h i O
  have:=h n O
  show pM f n+f n<=_
  grind
theorem abF{Z m}(mono:∀i j,i<=j->j<m->Z i<=Z j):∀{r},(∀j,j<r->jy Z m j<m/\jy Z m (j+1)=vc Z m (jy Z m j))->jy Z m r<m->∀i,i<jy Z m r->Z i<Z (jy Z m r)
 |0,_,_,i,hi=>absurd (show i<0 from hi) (lZ _)
 |r+1,h,hm,i,hi=>by
  obtain⟨g,k⟩:=h r O
  obtain⟨e1,l,e,f⟩:=xn Z g
  rw[<-k]at e1 e f
  have a:=e (jy Z m (r+1)-1) O O
  have b:=f hm
  have c:=mono (jy Z m (r+1)-1) _ O hm
  have d:=mono i (jy Z m (r+1)-1) O O
  omega
theorem Z5{Z m}(mono:∀i j,i<=j->j<m->Z i<=Z j){p}{I:Nat->Int}(inj:∀a b,a<p->b<p->I a=I b->a=b)(hI:∀i,i<m->∃l,l<p/\Z i=I l)(h:Int->Nat->Nat)(c:∀t,h t 0=0)(g:Nat->Nat):∀{r},(∀j,j<r->jy Z m j<m/\jy Z m (j+1)=vc Z m (jy Z m j))->
  pM (λj=>h (Z (jy Z m j)) (pM (λi=>g (jy Z m j+i)) (jy Z m (j+1)-jy Z m j))) r=pM (λl=>h (I l) (pM (λi=>bif decide (Z i=I l)then g i else 0) (jy Z m r))) p
 |0,_=>(KB λl _=>c _).symm
 |r+1,d=>by
  have v:=Z5 mono inj hI h c g (r:=r) λj w=>d j O
  obtain⟨k,x⟩:=d r O
  obtain⟨e1,o,q,u⟩:=xn Z k
  rw[<-x]at e1 o q u
  have nw:=abF mono (r:=r) (λj w=>d j O) k
  show pM _ r+h (Z (jy Z m r)) (pM (λi=>g (jy Z m r+i)) (jy Z m (r+1)-jy Z m r))=_
  rw[v]
  obtain⟨a,a1,a2⟩:=hI _ k
  generalize jy Z m (r+1)=e at e1 o q u
  generalize jy Z m r=s at*
  have sp:∀l,pM (λi=>bif decide (Z i=I l)then g i else 0) e=pM (λi=>bif decide (Z i=I l)then g i else 0) s+pM (λi=>bif decide (Z s=I l)then g (s+i)else 0) (e-s):=λl=>by
   have:=RD (λi=>bif decide (Z i=I l)then g i else 0) s (e-s)
   rw[show s+(e-s)=e by omega]at this
   rw[this]
   congr 1
   exact su λi hi=>Y
  refine(Eq.trans (XP (a:=a) a1 (g:=λl=>h (I l) (pM (λi=>bif decide (Z i=I l)then g i else 0) s)) (λl hl hn=>?_) ?_) ?_).symm
  ·show h _ (pM _ e)=_
   rw[sp l,KB (f:=λi=>bif decide (Z s=I l)then g (s+i)else 0) λi _=>Y]
   rfl
  ·show h _ (pM _ s)=0
   rw[KB λi hi=>?_,c]
   grind
  ·congr 1
   show h (I a) (pM _ e)=_
   rw[sp a,KB (n:=s) λi hi=>Y,Nat.zero_add,a2]
   simp
end Go.Sx
end
section
set_option maxRecDepth 100000
namespace Go.Sx
open Go
def V1(F:Nat->ay)(j:Nat):Nat:=mY F (j+1)-1
theorem Z6(F):RE F 0=true:=rfl
theorem acH(F)(j):0<mY F (j+1):=Nat.lt_of_lt_of_le (show 0<mY F 1 from Nat.zero_lt_one) (Tg F O)
theorem Zo{F j}(h:RE F j=true):V1 F j=mY F j:=by
 show(bif RE F j then mY F j+1 else mY F j)-1=_
 rw[h];rfl
theorem abG{F j}(h:RE F (j+1)=false):V1 F (j+1)=V1 F j:=by
 show(bif RE F (j+1)then mY F (j+1)+1 else mY F (j+1))-1=_
 rw[h];rfl
theorem XQ(F){i j}(h:i<=j):V1 F i<=V1 F j:=Nat.sub_le_sub_right (Tg F O) 1
theorem Zp{F k j}(h:j<k):V1 F j<mY F k:=by
 have a:=Tg F (O:j+1<=k)
 have b:=acH F j
 unfold V1;omega
theorem adK{F j}(h:RE F (j+1)=false):(F (j+1)).t=(F j).t:=by
 unfold RE at h
 grind
theorem V2{k F}:∀{j},j<k->FV k F (V1 F j)=(F j).t
 |0,h=>by rw[Zo (Z6 F)];exact Ur h (Z6 F)
 |j+1,h=>by
  cases a:RE F (j+1)with
  |true=>rw[Zo a];exact Ur h a
  |false=>rw[abG a,adK a];exact V2 O
theorem XR{F}:∀{k l},l<mY F k->∃j,j<k/\RE F j=true/\mY F j=l
 |0,l,h=>absurd (show l<0 from h) (lZ _)
 |k+1,l,h=>by
  by_cases e:l<mY F k
  ·obtain⟨j,a,b⟩:=XR e
   grind
  ·change l<(bif RE F k then mY F k+1 else mY F k)at h
   grind
def TG(F:Nat->ay)(k:Nat):Prop := ∀j,j+1<k->Bb (F j) (F (j+1))
theorem aat{F:Nat->ay}{k:Nat}(h:TG F k){i:Nat}:∀{j:Nat},i<=j->j<k->(F i).t<=(F j).t
 |0,h1,_=>Y
 |j+1,h1,d=>by
  rcases Nat.lt_or_eq_of_le h1 with c|c
  ·have a:=aat h (O:i<=j) O
   have b:=h j d
   unfold Bb at b
   omega
  ·subst c;exact Int.le_refl _
theorem aaF{F k}(h:TG F k){i}:∀{j},i<j->j<k->Bb (F i) (F j)
 |0,h1,_=>O
 |j+1,h1,d=>by
  have b:=h j d
  rcases Nat.lt_or_eq_of_le (O:i<=j)with c|c
  ·have a:=aaF h c O
   unfold Bb at*
   omega
  ·subst c;exact b
theorem adL{F k j}(h:TG F k)(b:j+1<k)(a:RE F (j+1)=true):(F j).t<(F (j+1)).t:=by
 have:=h j b
 unfold RE at a
 simp only[Bool.or_eq_true,Bool.not_eq_true',iK,bn]at a
 unfold Bb at this
 grind
theorem abH{F:Nat->ay}{k a b:Nat}(h:TG F k)(f:a<b)(g:b<mY F k):FV k F a<FV k F b:=by
 obtain⟨i,l,n,o⟩:=XR (O:a<mY F k)
 obtain⟨j,d,e,p⟩:=XR g
 have q:i<j:=by
  rcases Nat.lt_or_ge i j with c|c
  ·exact c
  ·have:=Tg F c;omega
 obtain⟨m,rfl⟩:∃m,j=m+1:=⟨j-1,O⟩
 rw[<-o,<-p,Ur l n,Ur d e]
 have x:=aat h (O:i<=m) O
 have y:=adL h d e
 omega
theorem Zq{F k a b}(h:TG F k)(ha:a<mY F k)(d:b<mY F k)(e:FV k F a=FV k F b):a=b:=by
 rcases Nat.lt_trichotomy a b with c|c|c
 ·have:=abH h c d;omega
 ·exact c
 ·have:=abH h c ha;omega
theorem VT{F k m n}(h:TG F k)(a:m<k)(hn:n<mY F k):(F m).t=FV k F n↔V1 F m=n :=
 ⟨λe=>Zq h (Zp a) hn ((V2 a).trans e),λe=>by rw[<-e];exact(V2 a).symm⟩
theorem YM{P}(b:∀i j,i<=j->P j=true->P i=true):∀{k j},j<k->(P j=true↔j<aP P k)
 |0,j,h=>O
 |k+1,j,h=>by
  have d:=jV P k
  by_cases e:j<k
  ·have c:=YM b e
   cases hp:P k with
   |true=>
    rw[iE hp]
    grind
   |false=>rw[kO hp];exact c
  ·have e:j=k:=by omega
   subst e
   cases hp:P j with
   |true=>
    rw[iE hp]
    have:aP P j=aP (λ_=>true) j:=by
     unfold aP
     rw[List.filter_eq_self.2 λa ha=>b a j Y hp,List.filter_eq_self.2 λa _=>rfl]
    rw[this,XD]
    simp
   |false=>rw[kO hp];grind
def TM(k:Nat)(F:Nat->ay)(n:Nat):Nat:=aP (λj=>decide (V1 F j<n)) k
theorem SZ{k F n j}(h:j<k):V1 F j<n↔j<TM k F n:=by
 have:=YM (P:=λj=>decide (V1 F j<n)) (λa b c d=>bW (by have:=XQ F c;grind)) h
 rwa[bn]at this
theorem adb(k)(F)(n):TM k F n<=k:=jV _ _
theorem acI(k)(F):TM k F 0=0:=by
 unfold TM aP
 simp
theorem acJ(k)(F):TM k F (mY F k)=k:=by
 rcases Nat.lt_or_eq_of_le (adb k F (mY F k))with a|a
 ·exact absurd ((SZ a).1 (Zp a)) (HD _)
 ·exact a
theorem Z7{k F n}(hn:n<mY F k):TM k F n<k/\V1 F (TM k F n)=n/\TM k F n<TM k F (n+1):=by
 obtain⟨j,g,h,i⟩:=XR hn
 have e:=(Zo h).trans i
 have a :¬ j<TM k F n:=λc=>by have:=(SZ g).2 c;omega
 have f:TM k F n<k:=O
 have b :¬ V1 F (TM k F n)<n:=λc=>HD _ ((SZ f).1 c)
 have c:=XQ F (O:TM k F n<=j)
 have d:V1 F (TM k F n)=n:=O
 exact⟨f,d,(SZ f).1 O⟩
def CP(k:Nat)(F:Nat->ay)(n m:Nat):Nat:=max (TM k F n) (min m (TM k F (n+1)))
def RF(k:Nat)(F:Nat->ay)(n m:Nat):Nat:=if TM k F n<m then n+1 else n
theorem abJ{k F n m}(hn:n<mY F k)(c:m<k)(h:V1 F m≠n):CP k F n (m+1)=CP k F n m/\RF k F n (m+1)=RF k F n m:=by
 obtain⟨_,_,d⟩:=Z7 hn
 have a:=SZ (n:=n) c (F:=F)
 have b:=SZ (n:=n+1) c (F:=F)
 unfold CP RF
 grind
theorem abK{k F n m}(d:m<k)(h:V1 F m=n):CP k F n (m+1)=m+1/\CP k F n m=m/\RF k F n (m+1)=n+1/\(m≠TM k F n->RF k F n m=n+1)/\(m=TM k F n->RF k F n m=n)/\TM k F n<=m:=by
 have a:=SZ (n:=n) d (F:=F)
 have b:=(SZ (n:=n+1) d (F:=F)).1 O
 have c :¬ m<TM k F n:=O
 unfold CP RF
 grind
theorem abL{k:Nat}{F:Nat->ay}{n m:Nat}(d:m<k)(h:V1 F m=n):(m≠TM k F n↔0<m/\V1 F (m-1)=n):=by
 obtain⟨_,_,_,_,_,s⟩:=abK d h
 refine⟨λe=>⟨O,?_⟩,λ⟨f,e1⟩ e=>?_⟩
 ·have a:=XQ F (O:m-1<=m)
  have b :¬ V1 F (m-1)<n:=λc=>by have:=(SZ (O:m-1<k)).1 c;omega
  omega
 ·have:=(SZ (n:=n) (O:m-1<k) (F:=F)).2 O
  omega
theorem aa0(k)(F)(n):CP k F n 0=TM k F n:=by unfold CP;omega
theorem Z8(k)(F)(n):RF k F n 0=n:=by rfl
theorem acK{k F n}(hn:n<mY F k):CP k F n k=TM k F (n+1)/\RF k F n k=n+1:=by
 obtain⟨a,_,b⟩:=Z7 hn
 have:=adb k F (n+1)
 exact⟨by unfold CP;omega,if_pos a⟩
def aag(F:Nat->ay)(c j:Nat):Bool:=Gr c (V1 F j)
def Bi(F:Nat->ay)(k c j:Nat):Nat:=eQ (aag F c) k j
end Go.Sx
end
section
set_option maxRecDepth 100000
namespace Go.Sx
open Go
def fr(n d:Nat):List UInt8×List UInt8:=(rN n d,rD n d)
theorem acL{n d m e}(c:0<d)(f:0<e)(h:n*e=m*d):fr n d=fr m e:=by
 have g:Nat.gcd n d*e=Nat.gcd m e*d:=by rw[<-Nat.gcd_mul_right,<-Nat.gcd_mul_right,h,Nat.mul_comm d e]
 have a:n/Nat.gcd n d=m/Nat.gcd m e:=by rw[<-Nat.mul_div_mul_right _ _ f,<-Nat.mul_div_mul_right m _ c,h,g]
 have b:d/Nat.gcd n d=e/Nat.gcd m e:=by rw[<-Nat.mul_div_mul_right d _ f,<-Nat.mul_div_mul_right e _ c,g,Nat.mul_comm d e]
 unfold fr rN rD
 rw[a,b]
theorem Tt{n d}(h:0<d):∃g x y,0<g/\n=g*x/\d=g*y/\0<y/\ao (rN n d)=x/\ao (rD n d)=y:=by
 have a:=Nat.gcd_pos_of_pos_right n h
 refine⟨Nat.gcd n d,n/Nat.gcd n d,d/Nat.gcd n d,a,(Nat.mul_div_cancel' (Nat.gcd_dvd_left n d)).symm,(Nat.mul_div_cancel' (Nat.gcd_dvd_right n d)).symm,Nat.div_pos (Nat.le_of_dvd h (Nat.gcd_dvd_right n d)) a,Xu n d,Xv n d⟩
theorem V3(g h x)(a:0<g)(b:0<h):x<=g*h*x:=Nat.le_mul_of_pos_left _ (Nat.mul_pos a b)
theorem adM{a b c d}(e:0<c)(f:0<d)(k:gI (a*b)=true)(l:gI (c*d)=true)(t1:gI a=true)(t2:gI b=true)(m:gI c=true)(o:gI d=true):
  Ed (rN a c) (rD a c) (rN b d) (rD b d)=true/\zS (rN a c) (rD a c) (rN b d) (rD b d)=rN (a*b) (c*d)/\zT (rN a c) (rD a c) (rN b d) (rD b d)=rD (a*b) (c*d):=by
 have p:=RL t1 m e
 have q:=RL t2 o f
 obtain⟨g,x,y,i,e1,r,s,t,w⟩:=Tt (n:=a) e
 obtain⟨h,u,v,j,f1,B,C,D,E⟩:=Tt (n:=b) f
 have key:fr (x*u) (y*v)=fr (a*b) (c*d):=acL (Nat.mul_pos s C) (Nat.mul_pos e f) Y
 unfold Ed zS zT
 rw[p,q,t,w,D,E]
 refine⟨?_,congrArg Prod.fst key,congrArg Prod.snd key⟩
 rw[dS (Nat.le_trans (V3 g h _ i j) (Nat.le_of_eq (by rw[e1,f1];ac_rfl))) k,dS (Nat.le_trans (V3 g h _ i j) (Nat.le_of_eq (by rw[r,B];ac_rfl))) l]
 rfl
theorem adN{a b c d}(e:0<c)(f:0<d)(m:gI (a*d+b*c)=true)(o:gI (c*d)=true)(t1:gI a=true)(t2:gI b=true)(p:gI c=true)(q:gI d=true):
  S8 (rN a c) (rD a c) (rN b d) (rD b d)=true/\Wg (rN a c) (rD a c) (rN b d) (rD b d)=rN (a*d+b*c) (c*d)/\Wh (rN a c) (rD a c) (rN b d) (rD b d)=rD (a*d+b*c) (c*d):=by
 have r:=RL t1 p e
 have s:=RL t2 q f
 obtain⟨g,x,y,i,e1,j,t,w,B⟩:=Tt (n:=a) e
 obtain⟨h,u,v,k,f1,l,C,D,E⟩:=Tt (n:=b) f
 have up:a*d+b*c=g*h*(x*v+u*y):=by rw[e1,j,f1,l,Nat.mul_add];ac_rfl
 have key:fr (x*v+u*y) (y*v)=fr (a*d+b*c) (c*d):=acL (Nat.mul_pos t C) (Nat.mul_pos e f) Y
 unfold S8 Wg Wh
 rw[r,s,w,B,D,E]
 refine⟨?_,congrArg Prod.fst key,congrArg Prod.snd key⟩
 rw[dS (Nat.le_trans (V3 g h _ i k) O) m,dS (Nat.le_trans (V3 g h _ i k) (Nat.le_of_eq (by rw[j,l];ac_rfl))) o]
 rfl
theorem adO{a b c d}(e:0<c)(f:0<d)(i:b*c<=a*d)(q:gI (a*d)=true)(r:gI (c*d)=true)(t1:gI a=true)(t2:gI b=true)(s:gI c=true)(t:gI d=true):
  RO (rN a c) (rD a c) (rN b d) (rD b d)=true/\RG (rN a c) (rD a c) (rN b d) (rD b d)=rN (a*d-b*c) (c*d)/\RH (rN a c) (rD a c) (rN b d) (rD b d)=rD (a*d-b*c) (c*d):=by
 have w:=RL t1 s e
 have B:=RL t2 t f
 obtain⟨g,x,y,j,e1,k,C,D,E⟩:=Tt (n:=a) e
 obtain⟨h,u,v,l,f1,m,F,G,H⟩:=Tt (n:=b) f
 have o:a*d=g*h*(x*v):=by rw[e1,m];ac_rfl
 have p:b*c=g*h*(u*y):=by rw[k,f1];ac_rfl
 have le:u*y<=x*v:=Nat.le_of_mul_le_mul_left (p▸o▸i) (Nat.mul_pos j l)
 have key:fr (x*v-u*y) (y*v)=fr (a*d-b*c) (c*d):=acL (Nat.mul_pos C F) (Nat.mul_pos e f) (by rw[o,p,<-Nat.mul_sub,k,m];ac_rfl)
 unfold RO RG RH
 rw[w,B,D,E,G,H]
 refine⟨?_,congrArg Prod.fst key,congrArg Prod.snd key⟩
 rw[kV le,dS (Nat.le_trans (V3 g h _ j l) O) q,dS (Nat.le_trans (V3 g h _ j l) (Nat.le_of_eq (by rw[k,m];ac_rfl))) r]
 rfl
theorem YO:∀{k n},n<10^(k+1)->Lib.nDigits n<=k+1
 |0,n,h=>by rw[Lib.nDigits_small (show n<10 from h)];exact dw _
 |k+1,n,h=>by
  by_cases h1:n<10
  ·rw[Lib.nDigits_small h1];omega
  ·have:=YO (k:=k) (n:=n/10) O
   rw[Lib.nDigits_big h1];omega
theorem XS{n}(h:n<10^200):gI n=true:=by
 unfold gI
 rw[Lib.decDigits_length]
 exact kV (YO (k:=199) h)
def Vn(n:Nat):Prop:=n<10^45
theorem Vn.tx{n}(h:Vn n):gI n=true:=XS (Nat.lt_of_lt_of_le h O)
theorem Vn.mul{a b}(ha:Vn a)(c:Vn b):a*b<10^90:=by
 rw[show 10^90=10^45*10^45 by rw[<-Nat.pow_add]]
 exact Nat.mul_lt_mul'' ha c
theorem Vn.ZF{a b}(ha:Vn a)(c:Vn b):gI (a*b)=true:=XS (Nat.lt_of_lt_of_le (ha.mul c) O)
theorem Vn.tx4{a b c d}(ha:Vn a)(f:Vn b)(h:Vn c)(i:Vn d):gI (a*b+c*d)=true:=XS (by
 have x:=ha.mul f
 have y:=h.mul i
 omega)
theorem acM{a b c d}(i:0<c)(j:0<d)(e:Vn a)(f:Vn b)(g:Vn c)(h:Vn d):
  Ed (rN a c) (rD a c) (rN b d) (rD b d)=true/\zS (rN a c) (rD a c) (rN b d) (rD b d)=rN (a*b) (c*d)/\zT (rN a c) (rD a c) (rN b d) (rD b d)=rD (a*b) (c*d):=
 adM i j (e.ZF f) (g.ZF h) e.tx f.tx g.tx h.tx
theorem aea{a b c d}(i:0<c)(j:0<d)(g:Vn a)(h:Vn b)(e:Vn c)(f:Vn d):
  S8 (rN a c) (rD a c) (rN b d) (rD b d)=true/\Wg (rN a c) (rD a c) (rN b d) (rD b d)=rN (a*d+b*c) (c*d)/\Wh (rN a c) (rD a c) (rN b d) (rD b d)=rD (a*d+b*c) (c*d):=
 adN i j (g.tx4 f h e) (e.ZF f) g.tx h.tx e.tx f.tx
theorem ad6{a b c d}(i:0<c)(j:0<d)(e:b*c<=a*d)(g:Vn a)(k:Vn b)(h:Vn c)(f:Vn d):
  RO (rN a c) (rD a c) (rN b d) (rD b d)=true/\RG (rN a c) (rD a c) (rN b d) (rD b d)=rN (a*d-b*c) (c*d)/\RH (rN a c) (rD a c) (rN b d) (rD b d)=rD (a*d-b*c) (c*d):=
 adO i j e (g.ZF f) (h.ZF f) g.tx k.tx h.tx f.tx
theorem Ow(k):bu k=rN k 1/\([49]:List UInt8)=rD k 1:=⟨(aaA k).1.symm,(aaA k).2.symm⟩
theorem aaG(d):([49]:List UInt8)=rN 1 d/\bu d=rD 1 d:=by
 have:=Zy (n:=1) (d:=d) (Nat.gcd_one_left d)
 rw[GR]at this
 grind
end Go.Sx
end
section
set_option maxRecDepth 100000
namespace Go.Sx
open Go
theorem XT{f B}:∀{n},(∀l,l<n->f l<=B)->Hn f n<=B^n
 |0,_=>dw _
 |n+1,h=>by rw[Nat.pow_succ];exact Nat.mul_le_mul (XT λl hl=>h l O) (h n O)
theorem UY{f}:∀{n},(∀l,l<n->0<f l)->0<Hn f n
 |0,_=>Nat.zero_lt_one
 |n+1,h=>Nat.mul_pos (UY λl hl=>h l O) (h n O)
def parts(d:Nat->Nat)(p:Nat):Prop:=p<=5/\∀l,l<p->0<d l/\d l<=9
theorem Z9{n}(h:n<=5):9^n<=59049:=Nat.pow_le_pow_right zC h
theorem parts.prod{d p n}(h:parts d p)(hn:n<=p):0<Hn d n/\Hn d n<=59049 :=
 ⟨UY λl hl=>(h.2 l O).1,Nat.le_trans (XT λl hl=>(h.2 l O).2) (Z9 (by have:=h.1;omega))⟩
theorem parts.wt{d p n}(h:parts d p)(hn:n<=p)(c):Rp d c n<=59049 :=
 Nat.le_trans (XT (B:=9) λl hl=>by have:=(h.2 l O).2;grind) (Z9 (by have:=h.1;omega))
theorem Vp{n}(h:n<=10^40):Vn n:=Nat.lt_of_le_of_lt h (Nat.pow_lt_pow_right zC zC)
theorem u9{n}(h:n<=1000000):Vn n:=Vp O
def Rm(d:Nat->Nat)(c n:Nat):List UInt8:=rN (Rp d c n) (Hn d n)
def Rn(d:Nat->Nat)(c n:Nat):List UInt8:=rD (Rp d c n) (Hn d n)
theorem acN{d p n}(h:parts d p)(hn:n<p)(c):
  (Gr c n=true->Ed (Rm d c n) (Rn d c n) [49] (bu (d n))=true/\zS (Rm d c n) (Rn d c n) [49] (bu (d n))=Rm d c (n+1)/\zT (Rm d c n) (Rn d c n) [49] (bu (d n))=Rn d c (n+1))/\
  (Gr c n=false->RO [49] [49] [49] (bu (d n))=true/\Ed (Rm d c n) (Rn d c n) (RG [49] [49] [49] (bu (d n))) (RH [49] [49] [49] (bu (d n)))=true/\zS (Rm d c n) (Rn d c n) (RG [49] [49] [49] (bu (d n))) (RH [49] [49] [49] (bu (d n)))=Rm d c (n+1)/\
   zT (Rm d c n) (Rn d c n) (RG [49] [49] [49] (bu (d n))) (RH [49] [49] [49] (bu (d n)))=Rn d c (n+1)):=by
 unfold Rm Rn
 obtain⟨g,j⟩:=h.prod (n:=n) O
 have k:=h.wt (n:=n) O c
 obtain⟨d1,l⟩:=h.2 n hn
 have up:Rp d c (n+1)=Rp d c n*(bif Gr c n then 1 else d n-1):=rfl
 have i:Hn d (n+1)=Hn d n*d n:=rfl
 rw[up,i]
 constructor
 ·intro e
  rw[e]
  obtain⟨f1,f⟩:=aaG (d n)
  rw[f,show([49]:List UInt8)=rN 1 (d n)from f1]
  exact acM g d1 (u9 O) (u9 O) (u9 O) (u9 O)
 ·intro e
  rw[e]
  obtain⟨f1,f⟩:=aaG (d n)
  have s:=ad6 (a:=1) (c:=1) (b:=1) (d:=d n) O d1 O (u9 O) (u9 O) (u9 O) (u9 O)
  rw[<-f1,<-f,<-GR,<-(Ow 1).1,(show rD 1 1=bu 1 by rw[<-(Ow 1).2];exact GR.symm)]at s
  rw[GR,Nat.one_mul,Nat.one_mul]at s
  rw[s.2.1,s.2.2]
  exact⟨s.1,acM g d1 (u9 O) (u9 O) (u9 O) (u9 O)⟩
theorem aa1{w t S D}(e:0<D)(i:w<=59049)(o:D<=59049)(lt:t<=10^20)(p:S<=10^30):
  Ed (rN w D) (rD w D) (bu t) [49]=true/\S8 (rN S D) (rD S D) (zS (rN w D) (rD w D) (bu t) [49]) (zT (rN w D) (rD w D) (bu t) [49])=true/\
  Wg (rN S D) (rD S D) (zS (rN w D) (rD w D) (bu t) [49]) (zT (rN w D) (rD w D) (bu t) [49])=rN (S+w*t) D/\Wh (rN S D) (rD S D) (zS (rN w D) (rD w D) (bu t) [49]) (zT (rN w D) (rD w D) (bu t) [49])=rD (S+w*t) D:=by
 obtain⟨f1,j⟩:=Ow t
 rw[f1,show([49]:List UInt8)=rD t 1 from j]
 have f:Vn t:=Vp O
 obtain⟨k,l,m⟩:=acM (a:=w) (c:=D) (b:=t) (d:=1) e O (u9 O) f (u9 O) (u9 O)
 rw[l,m]
 have g:Vn (w*t):=Vp (Nat.le_trans (Nat.mul_le_mul i lt) zC)
 have h:Vn S:=Vp O
 obtain⟨a1,a2,n⟩:=aea (a:=S) (c:=D) (b:=w*t) (d:=D*1) e O h g (u9 O) (u9 O)
 have key:fr (S*(D*1)+w*t*D) (D*(D*1))=fr (S+w*t) D:=acL ZD e Y
 exact⟨k,a1,a2.trans (congrArg Prod.fst key),n.trans (congrArg Prod.snd key)⟩
end Go.Sx
end
section
set_option maxRecDepth 100000
namespace Go.Sx
open Go
def BU(x y d:Nat->Nat)(p c j:Nat):Nat:=match j with
 |0=>Ol x d c p
 |1=>Ol y d c p
 |2=>Ol x d c p*Ol x d c p
 |3=>Ol y d c p*Ol y d c p
 |4=>Z4 x d c p
 |_=>Z4 y d c p
def Wd(x y d:Nat->Nat)(p c j:Nat):Nat:=pM (λb=>Rp d b p*BU x y d p b j) c
def MF(x y d:Nat->Nat)(p c e:Nat):List UInt8:=bif Nat.beq (e%2) 0 then rN (Wd x y d p c (e/2)) (Hn d p)else rD (Wd x y d p c (e/2)) (Hn d p)
def XU(x:Nat->Nat)(p:Nat):Prop := ∀l,l<p->x l<=1200
theorem Zr{x d p}(h:parts d p)(hx:XU x p)(c):Ol x d c p<=54000:=by
 have:=Rk (f:=λl=>bif Gr c l then x l*d l else 0) (B:=10800) (n:=p) λl hl=>by
  have:=Nat.mul_le_mul (hx l hl) (h.2 l hl).2
  grind
 have:=Nat.mul_le_mul_right 10800 h.1
 show pM _ p<=_
 omega
theorem abM{x d:Nat->Nat}{p:Nat}(h:parts d p)(hx:XU x p)(c:Nat):Z4 x d c p<=1000000000:=by
 have:=Rk (f:=λl=>bif Gr c l then x l*x l*(d l-1)*d l else 0) (B:=103680000) (n:=p) λl hl=>by
  have a:=Nat.mul_le_mul (hx l hl) (hx l hl)
  have e:=(h.2 l hl).2
  have b:=Nat.mul_le_mul (Nat.mul_le_mul a (O:d l-1<=8)) e
  cases Gr c l with
  |false=>exact Nat.zero_le _
  |true=>show x l*x l*(d l-1)*d l<=_;omega
 have:=Nat.mul_le_mul_right 103680000 h.1
 show pM _ p<=_
 omega
theorem ade{x y d p}(h:parts d p)(hx:XU x p)(g:XU y p)(c j):BU x y d p c j<=10^10:=by
 have a:=Zr h hx c
 have b:=Zr h g c
 have a2:=Nat.mul_le_mul a a
 have i:=Nat.mul_le_mul b b
 have e:=abM h hx c
 have f:=abM h g c
 unfold BU
 split<;>omega
theorem acO{x y d p}(h:parts d p)(hx:XU x p)(a:XU y p){c}(e:c<=32)(j):Wd x y d p c j<=10^30:=by
 have:=Rk (f:=λb=>Rp d b p*BU x y d p b j) (B:=59049*10^10) (n:=c) λb _=>Nat.mul_le_mul (h.wt (dw p) b) (ade h hx a b j)
 have:=O
 show pM _ c<=_
 omega
def acP(x y d:Nat->Nat)(p j:Nat):Nat:=match j with
 |0=>pM x p
 |1=>pM y p
 |2=>pM x p*pM x p+pM (λl=>x l*x l*(d l-1)) p
 |3=>pM y p*pM y p+pM (λl=>y l*y l*(d l-1)) p
 |4=>pM (λl=>x l*x l*(d l-1)) p
 |_=>pM (λl=>y l*y l*(d l-1)) p
theorem abN{x y d p}(h:∀l,l<p->0<d l)(j):Wd x y d p (2^p) j=acP x y d p j*Hn d p:=by
 rw[Nat.mul_comm]
 unfold Wd BU acP
 split
 ·exact Ts h
 ·exact Ts h
 ·exact Zn h
 ·exact Zn h
 ·exact Ts (f:=λl=>x l*x l*(d l-1)) h
 ·exact Ts (f:=λl=>y l*y l*(d l-1)) h
theorem adP{x y d p}(h:∀l,l<p->0<d l)(e):MF x y d p (2^p) e=bif Nat.beq (e%2) 0 then bu (acP x y d p (e/2))else [49]:=by
 unfold MF
 rw[abN h]
 obtain⟨a,b⟩:=VL (k:=acP x y d p (e/2)) (UY h)
 rw[a,b]
theorem acQ{x y d p}(h:∀l,l<p->0<d l)(e):MF x y d p 0 e=bif Nat.beq (e%2) 0 then [48]else [49]:=by
 unfold MF
 obtain⟨a,b⟩:=VL (k:=0) (UY h)
 rw[show Wd x y d p 0 (e/2)=0*Hn d p by rw[Nat.zero_mul];rfl,a,b,show bu 0=[48]from ly]
theorem UZ{x y d p}(h:parts d p)(hx:XU x p)(a:XU y p){c}(e:c<32)(j):
  Ed (Rm d c p) (Rn d c p) (bu (BU x y d p c j)) [49]=true/\
  S8 (MF x y d p c (2*j)) (MF x y d p c (2*j+1)) (zS (Rm d c p) (Rn d c p) (bu (BU x y d p c j)) [49]) (zT (Rm d c p) (Rn d c p) (bu (BU x y d p c j)) [49])=true/\
  Wg (MF x y d p c (2*j)) (MF x y d p c (2*j+1)) (zS (Rm d c p) (Rn d c p) (bu (BU x y d p c j)) [49]) (zT (Rm d c p) (Rn d c p) (bu (BU x y d p c j)) [49])=MF x y d p (c+1) (2*j)/\
  Wh (MF x y d p c (2*j)) (MF x y d p c (2*j+1)) (zS (Rm d c p) (Rn d c p) (bu (BU x y d p c j)) [49]) (zT (Rm d c p) (Rn d c p) (bu (BU x y d p c j)) [49])=MF x y d p (c+1) (2*j+1):=by
 have b:∀c,MF x y d p c (2*j)=rN (Wd x y d p c j) (Hn d p):=λc=>by
  unfold MF
  simp
 have e1:∀c,MF x y d p c (2*j+1)=rD (Wd x y d p c j) (Hn d p):=λc=>by
  unfold MF
  rw[show(2*j+1)%2=1 by omega,show(2*j+1)/2=j by omega];rfl
 rw[b,e1,b,e1]
 exact aa1 (h.prod (dw p)).1 (h.wt (dw p) c) (h.prod (dw p)).2 (Nat.le_trans (ade h hx a c j) zC) (acO h hx a O j)
theorem XV{v}(h:v<=10^20):Ed (bu v) [49] (bu v) [49]=true/\zS (bu v) [49] (bu v) [49]=bu (v*v)/\zT (bu v) [49] (bu v) [49]=[49]:=by
 obtain⟨f1,f⟩:=Ow v
 obtain⟨g1,g2⟩:=Ow (v*v)
 have e:Vn v:=Vp O
 have:=acM (a:=v) (c:=1) (b:=v) (d:=1) O O e e (u9 O) (u9 O)
 grind
theorem aa2{a b}(h:a<=10^40)(e:b<=a):RO (bu a) [49] (bu b) [49]=true/\RG (bu a) [49] (bu b) [49]=bu (a-b)/\RH (bu a) [49] (bu b) [49]=[49]:=by
 obtain⟨f1,f⟩:=Ow a
 obtain⟨g1,g2⟩:=Ow b
 obtain⟨e1,g⟩:=Ow (a-b)
 have:=ad6 (a:=a) (c:=1) (b:=b) (d:=1) O O O (Vp h) (Vp (Nat.le_trans e h)) (u9 O) (u9 O)
 grind
theorem Zs{x d:Nat->Nat}{p:Nat}(h:parts d p)(hx:XU x p):pM x p<=6000/\pM (λl=>x l*x l*(d l-1)) p<=100000000:=by
 have a:=Rk (f:=x) (B:=1200) (n:=p) hx
 have b:=Rk (f:=λl=>x l*x l*(d l-1)) (B:=11520000) (n:=p) λl hl=>by
  have i:=(h.2 l hl).2
  exact Nat.mul_le_mul (Nat.mul_le_mul (hx l hl) (hx l hl)) (O:d l-1<=8)
 have g:=h.1
 have c:=Nat.mul_le_mul_right 1200 g
 have e:=Nat.mul_le_mul_right 11520000 g
 omega
theorem YP{v r}(h:v<=6000)(d:r<=100000000):Ed (bu v) [49] (bu v) [49]=true/\zS (bu v) [49] (bu v) [49]=bu (v*v)/\zT (bu v) [49] (bu v) [49]=[49]/\RO (bu (v*v+r)) [49] (bu (v*v)) [49]=true/\RG (bu (v*v+r)) [49] (bu (v*v)) [49]=bu r/\RH (bu (v*v+r)) [49] (bu (v*v)) [49]=[49]:=by
 have s:=Nat.mul_le_mul h h
 obtain⟨a,b,c⟩:=XV (v:=v) O
 obtain⟨e,f,g⟩:=aa2 (a:=v*v+r) (b:=v*v) O O
 grind
end Go.Sx
end
