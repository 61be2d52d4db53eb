/- Lemmas, part 35. -/
import Derived.Test.YtoijalagmmgkbaaGreatDoorX34
set_option linter.all false
set_option linter.defProp false
section
set_option maxRecDepth 1000000
namespace Go.Sx
open Go
def Oo(D:Nat->List UInt8)(j:Nat):List AV:=[.str [49],.str (D j)]
def Lu(S D:Nat->List UInt8)(j:Nat):List AV:=[.str (S j),.str [49],.str [49],.str (D j)]
noncomputable def Jp(n:Nat)(S D:Nat->List UInt8)(m:Int->Nat)(i:Int):St:={t:=Tr.ofList [(0,.ab n 2 (lh S)),(1,.ab n 2 (Oo D)),(6,.own 12 (m i) 4),(19,.int .i64 (Int.ofNat n)),(20,.int .i64 i)],nt:=69,H:=WB 13 [(12,.rows (m i) 4 (Lu S D) (.ty 220))],df:=[]}
noncomputable def Jq(n:Nat)(S D:Nat->List UInt8):GE:=.one (.x 0 {t:=Tr.ofList [(6,.own 12 n 4)],nt:=69,H:=WB 13 [(12,.rows n 4 (Lu S D) (.ty 220))],df:=[]})
theorem ace(n)(S D)(m)(i)(Q):(kr [yM,j8] [] 83 5001 12 (Jp n S D m) (λ_=>Jq n S D) (λi=>i+1) Q i)=(let b:=(ao [49]);let a:=(decide (0<=i)&&decide (i<Int.ofNat n));(ah (decide (i<Int.ofNat n)) (aa a (aa (bJ (S i.toNat) [49]) (aa a (aa (bJ [49] (D i.toNat)) (aa a (aa (bJ [49] (D i.toNat)&&bJ [48] [49]) (ah (decide (bw b (ao (D i.toNat)) (ao [48]) b<=0)) False (aa a (aa (bJ [49] (D i.toNat)&&bJ [49] [49]) (ah (decide (bw b (ao (D i.toNat)) b b>0)) False (aa a (aa a (aa (decide (m i<=m i)&&true&&true&&decide ((m i+1)*64<=140737488355328)&&true) (aa (aN .i64 (i+1)) (ax (m i+1) (m (i+1)) (an (m i+1) (λc=>bif Nat.blt c (m i)then Lu S D c else List.take 4 (List.drop (0+(c-m i)*4) [AV.str (S i.toNat),AV.str [49],AV.str [49],AV.str (D i.toNat)])) (Lu S D)/\zyB [49] (zyB [49] (zyB [48] (zyB [49] (zyI (Int.ofNat n) (zyN n (zyR n (Oo D) (zyN n (zyR n (lh S) (zyI (i+1) (ax (m i+1) (m (i+1)) Q)))))))))))))))))))))))))) (ax (m i) n (zyR (m i) (Lu S D) (zyB [49] (zyB [49] (zyB [48] (zyB [49] (ax (m i) n True))))))))):=U
theorem ad0(n)(S D)(m)(Q):(ke [] [(5001,12,Jp n S D m 0,Jq n S D)] 83 [.ab n 2 (lh S),.ab n 2 (Oo D)] Q)=(ah (!decide (Int.ofNat n=Int.ofNat n)) (Q (AV.qP [AV.aw,AV.bool false])) (ah (decide (Int.ofNat n>400)) (Q (AV.qP [AV.aw,AV.bool false])) (eu PP II false (aD II 83 5001) 12 (Jp n S D m 0) (Jq n S D)/\ax (m 0) 0 (zyB [49] (zyB [49] (zyB [48] (zyB [49] (zyI (Int.ofNat n) (zyN n (zyR n (Oo D) (zyN n (zyR n (lh S) (ax (m 0) 0 (aa ((List.all (List.range.loop n []) λi=>true)&&decide (n<=n)) (Q (AV.qP [AV.ab n 4 (Lu S D),AV.bool true])))))))))))))))):=U
noncomputable def CR(b fn n:Nat)(S D:Nat->List UInt8)(a:Int->List UInt8)(i:Int):St:={t:=Tr.ofList [(2,.ptr 14 0 0 0),(3,.fn fn [] [.ptr b 0 0 0]),(5,.ptr (b+2) 0 0 0),(8,.ptr (b+3) 0 0 0),(11,.ab n 4 (Lu S D)),(12,.int .i64 (Int.ofNat n)),(13,.int .i64 i)],nt:=25,H:=Xk b (a i),df:=[]}
theorem acf(n)(S D)(b)(a)(i)(Q):(kr [Du,YC] [] 137 2001 19 (CR 15 138 n S D b) (λ_=>LI 15 a) (λi=>i+1) Q i)=(let c:=(aak (S i.toNat) [49] [49] (D i.toNat));(ah (decide (i<Int.ofNat n)) (aa (decide (0<=i)&&decide (i<Int.ofNat n)) (aa (Wa (S i.toNat) [49] [49] (D i.toNat)) (aa (decide (b i=b i)&&true) (aa (isNat (b i)&&isNat c&&true&&decide (aal (S i.toNat) [49] [49] (D i.toNat)=[49])&&Nat.ble (ao (b i)) 2305843009213693952&&Nat.ble (ao c) 2305843009213693952) (aa (aN .i64 (i+1)) (bI (bu (ao (b i)+ao c)) (b (i+1)) (zyB [49] (false=false/\zyB [49] (zyB [49] (zyB [48] (zyB [49] (zyN n (zyR n (Lu S D) (zyI (i+1) (zyI (Int.ofNat n) Q))))))))))))))) (bI (b i) a (zyB [49] (false=false/\zyB [49] (zyB [49] (zyB [48] (zyB [49] True)))))))):=U
theorem acg(n)(S D)(b)(a)(i)(Q):(kr [Du,TL,YC,VK] [] 137 2001 23 (CR 19 140 n S D b) (λ_=>LI 19 a) (λi=>i+1) Q i)=(let c:=(zS (S i.toNat) [49] (S i.toNat) [49]);let d:=(zT (S i.toNat) [49] (S i.toNat) [49]);let e:=(RG [49] [49] [49] (D i.toNat));let f:=(RH [49] [49] [49] (D i.toNat));let g:=(zS [49] (D i.toNat) [49] (D i.toNat));let h:=(zT [49] (D i.toNat) [49] (D i.toNat));let j:=(aak (zS c d e f) (zT c d e f) g h);let k:=(decide (D i.toNat=D i.toNat)&&true);(ah (decide (i<Int.ofNat n)) (aa (decide (0<=i)&&decide (i<Int.ofNat n)) (aa (Ed (S i.toNat) [49] (S i.toNat) [49]) (aa k (aa (RO [49] [49] [49] (D i.toNat)) (aa (Ed c d e f) (aa k (aa k (aa (Ed [49] (D i.toNat) [49] (D i.toNat)) (aa (Wa (zS c d e f) (zT c d e f) g h) (aa (decide (b i=b i)&&true) (aa (isNat (b i)&&isNat j&&true&&decide (aal (zS c d e f) (zT c d e f) g h=[49])&&Nat.ble (ao (b i)) 2305843009213693952&&Nat.ble (ao j) 2305843009213693952) (aa (aN .i64 (i+1)) (bI (bu (ao (b i)+ao j)) (b (i+1)) (zyB [49] (false=false/\zyB [49] (zyB [49] (zyB [48] (zyB [49] (zyN n (zyR n (Lu S D) (zyI (i+1) (zyI (Int.ofNat n) Q)))))))))))))))))))))) (bI (b i) a (zyB [49] (false=false/\zyB [49] (zyB [49] (zyB [48] (zyB [49] True)))))))):=U
end Go.Sx
end
section
set_option maxRecDepth 1000000
namespace Go.Sx
open Go
theorem VL{k d}(h:0<d):rN (k*d) d=bu k/\rD (k*d) d=[49]:=by
 have g:Nat.gcd (k*d) d=d:=zA
 unfold rN rD
 rw[g,Nat.mul_div_cancel _ h,Nat.div_self h,GR]
 exact⟨rfl,rfl⟩
theorem aaA(k):rN k 1=bu k/\rD k 1=[49]:=by
 have:=VL (k:=k) (d:=1) O
 grind
theorem Zy{n d:Nat}(h:Nat.gcd n d=1):rN n d=bu n/\rD n d=bu d:=by
 unfold rN rD
 grind
theorem Xw{n}(h:0<n):Nat.gcd (n-1) n=1:=by
 obtain⟨m,rfl⟩:∃m,n=m+1:=⟨n-1,O⟩
 simp
theorem abd{s d}(a:isNat s=true)(b:isNat d=true)(h:0<ao d)(c:ao s*ao d<9223372036854775808):Wa s [49] [49] d=true/\aak s [49] [49] d=bu (ao s*ao d)/\aal s [49] [49] d=[49]:=by
 obtain⟨r1,f⟩:=aaA (ao s*ao d)
 have e:bJ [49] d=true:=by
  unfold bJ
  rw[jz,b,il,Nat.gcd_one_left,Nat.blt_eq.mpr h];rfl
 unfold Wa aak aal
 rw[mr a,e,il,Nat.mul_one,jL c,jL (n:=1) O]
 simp_all
theorem aaM{s d}(D:isNat s=true)(E:isNat d=true)(h:0<ao d)(a:ao d<=1000)(b:ao s*ao s*(ao d*ao d)*ao d<9223372036854775808):
  Ed s [49] s [49]=true/\RO [49] [49] [49] d=true/\Ed (zS s [49] s [49]) (zT s [49] s [49]) (RG [49] [49] [49] d) (RH [49] [49] [49] d)=true/\Ed [49] d [49] d=true/\
   Wa (zS (zS s [49] s [49]) (zT s [49] s [49]) (RG [49] [49] [49] d) (RH [49] [49] [49] d)) (zT (zS s [49] s [49]) (zT s [49] s [49]) (RG [49] [49] [49] d) (RH [49] [49] [49] d)) (zS [49] d [49] d) (zT [49] d [49] d)=true/\
   aak (zS (zS s [49] s [49]) (zT s [49] s [49]) (RG [49] [49] [49] d) (RH [49] [49] [49] d)) (zT (zS s [49] s [49]) (zT s [49] s [49]) (RG [49] [49] [49] d) (RH [49] [49] [49] d)) (zS [49] d [49] d) (zT [49] d [49] d)=bu (ao s*ao s*(ao d-1)*ao d)/\
   aal (zS (zS s [49] s [49]) (zT s [49] s [49]) (RG [49] [49] [49] d) (RH [49] [49] [49] d)) (zT (zS s [49] s [49]) (zT s [49] s [49]) (RG [49] [49] [49] d) (RH [49] [49] [49] d)) (zS [49] d [49] d) (zT [49] d [49] d)=[49]:=by
 have F:=mr D
 have r:bJ [49] d=true:=by
  unfold bJ
  rw[jz,E,il,Nat.gcd_one_left,Nat.blt_eq.mpr h];rfl
 have G:bJ [49] [49]=true:=mr jz
 generalize hV:ao s=V at*
 generalize i:ao d=N at*
 have t1:gI 1=true:=jL (n:=1) O
 have R:V*V*(N*N)<9223372036854775808:=Nat.lt_of_le_of_lt (Nat.le_mul_of_pos_right _ h) b
 have S:N*N<=1000000:=Nat.mul_le_mul a a
 have j:gI N=true:=jL O
 have c:gI (N*N)=true:=jL O
 have H:V*V<=V*V*(N*N):=Nat.le_mul_of_pos_right _ (Nat.mul_pos h h)
 have f:gI (V*V)=true:=jL O
 have T:V*V*(N-1)<=V*V*(N*N):=Nat.mul_le_mul_left _ (Nat.le_trans (Nat.sub_le N 1) (Nat.le_mul_of_pos_left N h))
 have t:gI (V*V*(N-1))=true:=jL O
 have u:zS s [49] s [49]=bu (V*V)/\zT s [49] s [49]=[49]:=by
  unfold zS zT
  rw[hV,il]
  exact aaA _
 have v:RG [49] [49] [49] d=bu (N-1)/\RH [49] [49] [49] d=bu N:=by
  unfold RG RH
  rw[il,i,Nat.one_mul,Nat.one_mul]
  exact Zy (Xw h)
 have w:zS [49] d [49] d=[49]/\zT [49] d [49] d=bu (N*N):=by
  unfold zS zT
  rw[il,i,Nat.one_mul]
  have:=Zy (n:=1) (d:=N*N) (Nat.gcd_one_left _)
  rwa[GR]at this
 rw[u.1,u.2,v.1,v.2,w.1,w.2]
 have l:=Nat.gcd_pos_of_pos_right (V*V*(N-1)) h
 have I:bJ (bu (N-1)) (bu N)=true:=by
  have:=RL (n:=N-1) (d:=N) (jL O) j h
  rwa[(Zy (Xw h)).1,(Zy (Xw h)).2]at this
 have J:bJ (bu (V*V)) [49]=true:=mr (dc f)
 have B:zS (bu (V*V)) [49] (bu (N-1)) (bu N)=rN (V*V*(N-1)) N/\zT (bu (V*V)) [49] (bu (N-1)) (bu N)=rD (V*V*(N-1)) N:=by
  unfold zS zT
  rw[cq,cq,cq,il,Nat.one_mul]
  exact⟨rfl,rfl⟩
 have K:=RL t j h
 have L:bJ [49] (bu (N*N))=true:=by
  unfold bJ
  rw[jz,dc c,cq,il,Nat.gcd_one_left,Nat.blt_eq.mpr (Nat.mul_pos h h)];rfl
 obtain⟨x,hx⟩:=Nat.gcd_dvd_left (V*V*(N-1)) N
 obtain⟨y,k⟩:=Nat.gcd_dvd_right (V*V*(N-1)) N
 generalize m:Nat.gcd (V*V*(N-1)) N=g at*
 have o:V*V*(N-1)/g=x:=by rw[hx];exact Nat.mul_div_cancel_left x l
 have q:N/g=y:=by rw[k];exact Nat.mul_div_cancel_left y l
 have C:0<y:=by
  rcases Nat.eq_zero_or_pos y with e|p
  ·grind
  ·exact p
 have key:x*(N*N)=V*V*(N-1)*N*y:=by
  rw[hx]
  conv=>lhs;rw[k]
  rw[k]
  simp only[Nat.mul_assoc,Nat.mul_left_comm,Nat.mul_comm]
 have P:y<=N:=by rw[k];exact Nat.le_mul_of_pos_left y l
 have Q:V*V*(N-1)*N*y<9223372036854775808:=by
  refine Nat.lt_of_le_of_lt (Nat.mul_le_mul ?_ P) b
  rw[<-Nat.mul_assoc (V*V) N N]
  exact Nat.mul_le_mul_right N (Nat.mul_le_mul_left _ (Nat.sub_le N 1))
 rw[B.1,B.2]
 refine⟨?_,?_,?_,?_,?_,?_,?_⟩
 ·unfold Ed;rw[F,hV,il,f,t1];rfl
 ·unfold RO;rw[G,r,il,i,Nat.one_mul,Nat.one_mul,j,kV h];rfl
 ·unfold Ed;rw[J,I,cq,cq,cq,il,Nat.one_mul,t,j];rfl
 ·unfold Ed;rw[r,il,i,c,t1];rfl
 ·unfold Wa
  rw[K,L,Xu,Xv,cq,il,m,o,q,key,Nat.mul_one,jL Q,jL O]
  rfl
 ·unfold aak
  rw[Xu,Xv,cq,il,m,o,q,key,Nat.mul_one]
  exact(VL C).1
 ·unfold aal
  rw[Xu,Xv,cq,il,m,o,q,key,Nat.mul_one]
  exact(VL C).2
end Go.Sx
end
section
set_option maxRecDepth 1000000
namespace Go.Sx
open Go
theorem Wu(σ)(D)(j):bt.le σ (Oo D j) (Oo D j):=⟨rfl,rfl,trivial⟩
theorem Xx(σ)(S D)(j):bt.le σ (Lu S D j) (Lu S D j):=⟨rfl,rfl,rfl,rfl,trivial⟩
theorem Zv(n)(D):an n (Oo D) (Oo D):=λj _ σ=>Wu σ D j
theorem YX(n)(S D):an n (Lu S D) (Lu S D):=λj _ σ=>Xx σ S D j
theorem abe(n)(a):an n (lh a) (lh a):=λj _ σ=>tn σ a j
theorem aam{d}(a:isNat d=true)(h:0<ao d):bJ [49] d=true:=by
 unfold bJ
 rw[jz,a,il,Nat.gcd_one_left,Nat.blt_eq.mpr h];rfl
theorem ach{n S D}(l:n<=400)(hS:∀j,j<n->isNat (S j)=true)(d:∀j,j<n->isNat (D j)=true/\0<ao (D j)):eu PP II false (aD II 83 5001) 12 (Jp n S D Int.toNat 0) (Jq n S D):=by
 refine eu.wL [yM,j8] (n:=n) A λk m Q hQ=>?_
 have o:Int.ofNat n=(n:Int):=rfl
 rw[ace,show Int.toNat (k:Int)=k from rfl,show Int.toNat ((k:Int)+1)=k+1 by omega]
 refine Zg (λh=>?_) λh=>?_
 ·have b:k<n:=by omega
  obtain⟨d1,f⟩:=d k b
  have c:=aam d1 f
  have g:bJ [48] [49]=true:=mr (show isNat [48]=true by rw[<-ly];exact dc (jL (n:=0) O))
  have hn:=hQ b
  have sn:=pn (Lu S D) k (λj σ=>Xx σ S D j) A
  have a:(decide ((0:Int)<=(k:Int))&&decide ((k:Int)<Int.ofNat n))=true:=by simp only[bf,bn];omega
  have i:(decide (k<=k)&&true&&true&&decide ((k+1)*64<=140737488355328)&&true)=true:=by rw[bW (dw k),bW O];rfl
  have c0 :¬ bw (ao [49]) (ao (D k)) (ao [48]) (ao [49])<=0:=by
   rw[il,Bh]
   unfold bw DA
   rw[Nat.one_mul,Nat.zero_mul,if_neg O,if_pos O]
   decide
  have p :¬ bw (ao [49]) (ao (D k)) (ao [49]) (ao [49])>0:=by
   rw[il]
   unfold bw DA
   rw[Nat.one_mul,Nat.one_mul]
   split
   ·decide
   ·omega
  refine cC _ _ a (cC _ _ (mr (hS k b)) (cC _ _ a (cC _ _ c (cC _ _ a (cC _ _ ((congr (congrArg and c) g).trans A) ?_)))))
  refine Zg zI λ_=>cC _ _ a (cC _ _ ((congr (congrArg and c) (mr jz)).trans A) ?_)
  refine Zg zI λ_=>cC _ _ a (cC _ _ a (cC _ _ i (cC _ _ (aq O O) ?_)))
  repeat' (first|with_reducible exact hn|exact sn|with_reducible exact abe _ _|with_reducible exact Zv _ _|with_reducible refine Zi A ?_|with_reducible refine Zf A ?_|with_reducible refine YG A ?_|with_reducible refine And.intro ?_ ?_)
 ·have e:k=n:=by omega
  subst e
  repeat' (with_reducible first|exact trivial|exact YX _ _ _|refine Zi A ?_|refine YG A ?_|refine And.intro ?_ ?_)
theorem ad1{n S D}(a:n<=400)(hS:∀j,j<n->isNat (S j)=true)(b:∀j,j<n->isNat (D j)=true/\0<ao (D j)):af PP II 83 [.ab n 2 (lh S),.ab n 2 (Oo D)] HE (.ret (.qP [.ab n 4 (Lu S D),.bool true]) HE):=by
 refine Vf (ks:=[]) (T:=[(5001,12,Jp n S D Int.toNat 0,Jq n S D)]) ?_
 rw[ad0]
 have c:Int.ofNat n=(n:Int):=rfl
 have fin:∀σ:Nat->Nat,AV.le σ (.qP [.ab n 4 (Lu S D),.bool true]) (.qP [.ab n 4 (Lu S D),.bool true]):=λσ=>⟨⟨rfl,rfl,λj _=>Xx σ S D j⟩,rfl,trivial⟩
 refine Zh zA λ_=>Zg O λ_=>⟨ach a hS b,?_⟩
 have f1:((List.range.loop n []).all (λ_=>true)&&decide (n<=n))=true:=by
  rw[bW (dw n),Bool.and_true]
  exact zA
 repeat' (first|exact fin|with_reducible exact abe _ _|with_reducible exact Zv _ _|exact f1|refine Ze ?_ ?_|with_reducible refine Zi A ?_|with_reducible refine Zf A ?_|with_reducible refine YG A ?_|with_reducible refine And.intro ?_ ?_)
def Vj(n:Nat)(f:Nat->List AV):Bool:=(List.range n).all λj=>match f j with
 |[.str s,.str d]=>isNat s&&decide (d=[49])&&Nat.blt (ao s) 4000000
 |_=>false
def R4(f:Nat->List AV)(j:Nat):List UInt8:=match f j with
 |[_,.str d]=>d
 |_=>[]
def TC(n:Nat)(f:Nat->List AV):Bool:=(List.range n).all λj=>match f j with
 |[.str s,.str d]=>decide (s=[49])&&isNat d&&Nat.blt 0 (ao d)&&Nat.blt (ao d) 10
 |_=>false
theorem YD{n f}(h:Vj n f=true):∀j,j<n->f j=lh (pS f) j/\isNat (pS f j)=true/\ao (pS f j)<4000000:=λj a=>by
 have:=List.all_eq_true.1 h j (List.mem_range.2 a)
 unfold lh pS
 split at this
 all_goals simp_all
theorem Xz{n f}(h:TC n f=true):∀j,j<n->f j=Oo (R4 f) j/\isNat (R4 f j)=true/\0<ao (R4 f j)/\ao (R4 f j)<10:=λj a=>by
 have:=List.all_eq_true.1 h j (List.mem_range.2 a)
 unfold Oo R4
 split at this
 all_goals simp_all
noncomputable def ac1:aC PP II:=aC.S1 83
 (λX args d=>match args with
  |[.ab n 2 f,.ab m 2 g]=>X.bq (Nat.beq n m&&Nat.ble n 400&&Vj n f&&TC n g) (d (.qP [.ab n 4 (Lu (pS f) (R4 g)),.bool true]))
  |_=>X.fail)
 λX sem hX args d h=>by
  split at h
  ·rename_i n f m g
   obtain⟨e,i⟩:=hX.bq _ _ h
   simp only[bf]at e
   obtain⟨⟨⟨a1,a2⟩,a⟩,b⟩:=e
   cases dE a1
   have a:=YD a
   have b:=Xz b
   refine⟨_,i,λ_=>rfl,λ_=>rfl,(ad1 (S:=pS f) (D:=R4 g) ZD ZD ZD).dq ⟨⟨rfl,rfl,λj c=>?_⟩,⟨rfl,rfl,λj c=>?_⟩,trivial⟩⟩
   ·rw[(a j c).1];exact tn _ _ j
   ·rw[(b j c).1];exact Wu _ _ j
  ·exact zR
theorem adi(n)(S D)(c B)(a b)(Q):(ke [ac1] [(2001,19,CR 15 138 n S D c 0,LI 15 a),(2001,23,CR 19 140 n S D B 0,LI 19 b)] 32 [.ab n 2 (lh S),.ab n 2 (Oo D)] Q)=(aa (Nat.beq n n&&Nat.ble n 400&&Vj n (lh S)&&TC n (Oo D)) (eu PP II false (aD II 137 2001) 19 (CR 15 138 n S D c 0) (LI 15 a)/\bI [48] (c 0) (zyB [49] (false=false/\zyB [49] (zyB [49] (zyB [48] (zyB [49] (zyN n (an n (Lu (λj=>S j) λj=>D j) (Lu S D)/\zyI (Int.ofNat n) (eu PP II false (aD II 137 2001) 23 (CR 19 140 n S D B 0) (LI 19 b)/\bI [48] (B 0) (zyB [49] (false=false/\zyB [49] (zyB [49] (zyB [48] (zyB [49] (zyN n (an n (Lu (λj=>S j) λj=>D j) (Lu S D)/\zyI (Int.ofNat n) (aa (decide (b=b)&&true) (Q (AV.qP [AV.agg [AV.str a,AV.str [49]],AV.agg [AV.str b,AV.str [49]],AV.int .i64 0])))))))))))))))))))):=U
end Go.Sx
end
section
set_option maxRecDepth 1000000
namespace Go.Sx
open Go
def Pb(S D:Nat->List UInt8)(j:Nat):Nat:=ao (S j)*ao (D j)
def P3(S D:Nat->List UInt8)(j:Nat):Nat:=ao (S j)*ao (S j)*(ao (D j)-1)*ao (D j)
def Sw(n:Nat)(S D:Nat->List UInt8):Prop := ∀j,j<n->isNat (S j)=true/\ao (S j)<4000000/\isNat (D j)=true/\0<ao (D j)/\ao (D j)<10
theorem TP{n S D}(h:Sw n S D)(j)(b:j<n):Pb S D j<=36000000/\P3 S D j<=1152000000000000/\ao (S j)*ao (S j)*(ao (D j)*ao (D j))*ao (D j)<9223372036854775808:=by
 obtain⟨_,f,_,g,i⟩:=h j b
 have k:ao (S j)*ao (D j)<=4000000*9:=Nat.mul_le_mul O O
 have a:ao (S j)*ao (S j)<=4000000*4000000:=Nat.mul_le_mul O O
 have c:ao (S j)*ao (S j)*(ao (D j)-1)<=4000000*4000000*8:=Nat.mul_le_mul a O
 have l:ao (S j)*ao (S j)*(ao (D j)-1)*ao (D j)<=4000000*4000000*8*9:=Nat.mul_le_mul c O
 have d:ao (D j)*ao (D j)<=9*9:=Nat.mul_le_mul O O
 have e:ao (S j)*ao (S j)*(ao (D j)*ao (D j))<=4000000*4000000*(9*9):=Nat.mul_le_mul a d
 have m:ao (S j)*ao (S j)*(ao (D j)*ao (D j))*ao (D j)<=4000000*4000000*(9*9)*9:=Nat.mul_le_mul e O
 unfold Pb P3
 omega
theorem aci{n S D}(s:n<=400)(h:Sw n S D):eu PP II false (aD II 137 2001) 19 (CR 15 138 n S D (λi=>bu (pM (Pb S D) i.toNat)) 0) (LI 15 (bu (pM (Pb S D) n))):=by
 refine eu.wL [Du,YC] (n:=n) A λk t Q hQ=>?_
 have u:Int.ofNat n=(n:Int):=rfl
 rw[acf,show Int.toNat (k:Int)=k from rfl,show Int.toNat ((k:Int)+1)=k+1 by omega,cq]
 try rw[Wv]
 refine Zg (λf=>?_) λf=>?_
 ·have a:k<n:=by omega
  obtain⟨g,v,d1,l,w⟩:=h k a
  have c:=λj d=>(TP h j d).1
  have x:=Oe (W:=Pb S D) (b:=36000000) (n:=k) λj d=>c j O
  have m:=c k a
  obtain⟨o,p,q⟩:=abd g d1 l (show ao (S k)*ao (D k)<9223372036854775808 by unfold Pb at m;omega)
  have r:(decide ((0:Int)<=(k:Int))&&decide ((k:Int)<Int.ofNat n))=true:=by simp only[bf,bn];omega
  have hn:=hQ a
  rw[o,p,q,cq,show ao (S k)*ao (D k)=Pb S D k from rfl,K4 O,K4 O,kV O,kV O]
  refine cC _ _ r (cC _ _ A (cC _ _ zA (cC _ _ (by rfl) (cC _ _ (aq O O) ?_))))
  exact ZL
 ·have e:k=n:=by omega
  subst e
  exact ZM
theorem acj{n S D}(w:n<=400)(h:Sw n S D):eu PP II false (aD II 137 2001) 23 (CR 19 140 n S D (λi=>bu (pM (P3 S D) i.toNat)) 0) (LI 19 (bu (pM (P3 S D) n))):=by
 refine eu.wL [Du,TL,YC,VK] (n:=n) A λk x Q hQ=>?_
 have y:Int.ofNat n=(n:Int):=rfl
 rw[acg,show Int.toNat (k:Int)=k from rfl,show Int.toNat ((k:Int)+1)=k+1 by omega,cq]
 try rw[Wv]
 refine Zg (λf=>?_) λf=>?_
 ·have a:k<n:=by omega
  obtain⟨g,B,d1,l,C⟩:=h k a
  have c:=λj d=>(TP h j d).2.1
  have E:=Oe (W:=P3 S D) (b:=1152000000000000) (n:=k) λj d=>c j O
  have F:=c k a
  obtain⟨m,o,p,q,r,s,t⟩:=aaM g d1 l O (TP h k a).2.2
  have u:(decide ((0:Int)<=(k:Int))&&decide ((k:Int)<Int.ofNat n))=true:=by simp only[bf,bn];omega
  have hn:=hQ a
  have v:decide (D k=D k)=true:=bW A
  rw[m,o,p,q,r,s,t,v,cq,show ao (S k)*ao (S k)*(ao (D k)-1)*ao (D k)=P3 S D k from rfl,K4 O,K4 O,kV O,kV O]
  refine cC _ _ u (cC _ _ A (cC _ _ A (cC _ _ A (cC _ _ A (cC _ _ A (cC _ _ A (cC _ _ A (cC _ _ A (cC _ _ zA (cC _ _ (by rfl) (cC _ _ (aq O O) ?_)))))))))))
  exact ZL
 ·have e:k=n:=by omega
  subst e
  exact ZM
theorem XA{n S D}(h:Sw n S D):Vj n (lh S)=true/\TC n (Oo D)=true:=⟨List.all_eq_true.2 λj a=>by
  obtain⟨b,c,d1,d,e⟩:=h j (List.mem_range.1 a)
  show(isNat (S j)&&decide ([49]=[(49:UInt8)])&&Nat.blt (ao (S j)) 4000000)=true
  simp_all,
 List.all_eq_true.2 λj a=>by
  obtain⟨b,c,d1,d,e⟩:=h j (List.mem_range.1 a)
  show(decide ([49]=[(49:UInt8)])&&isNat (D j)&&Nat.blt 0 (ao (D j))&&Nat.blt (ao (D j)) 10)=true
  simp_all⟩
theorem adj{n S D}(a:n<=400)(h:Sw n S D):af PP II 32 [.ab n 2 (lh S),.ab n 2 (Oo D)] HE (.ret (.qP [.agg [.str (bu (pM (Pb S D) n)),.str [49]],.agg [.str (bu (pM (P3 S D) n)),.str [49]],.int .i64 0]) HE):=by
 refine Vf (ks:=[ac1]) (T:=[(2001,19,CR 15 138 n S D (λi=>bu (pM (Pb S D) i.toNat)) 0,LI 15 (bu (pM (Pb S D) n))),(2001,23,CR 19 140 n S D (λi=>bu (pM (P3 S D) i.toNat)) 0,LI 19 (bu (pM (P3 S D) n)))]) ?_
 have l1:=aci a h
 have l2:=acj a h
 obtain⟨b,c⟩:=XA h
 have t1:[48]=bu (pM (Pb S D) (Int.toNat 0)):=ly.symm
 have t2:[48]=bu (pM (P3 S D) (Int.toNat 0)):=ly.symm
 rw[adi,b,c,ni,kV a]
 refine cC _ _ A ⟨l1,?_⟩
 have fin:∀σ:Nat->Nat,AV.le σ (.qP [.agg [.str (bu (pM (Pb S D) n)),.str [49]],.agg [.str (bu (pM (P3 S D) n)),.str [49]],.int .i64 0]) (.qP [.agg [.str (bu (pM (Pb S D) n)),.str [49]],.agg [.str (bu (pM (P3 S D) n)),.str [49]],.int .i64 0]):=λσ=>⟨⟨rfl,rfl,trivial⟩,⟨rfl,rfl,trivial⟩,⟨rfl,rfl⟩,trivial⟩
 repeat' (first|with_reducible exact l2|exact fin|with_reducible exact YX _ _ _|exact YX _ _ _|with_reducible refine Zi A ?_|refine Zi t1 ?_|refine Zi t2 ?_|with_reducible refine Zf A ?_|with_reducible refine YG A ?_|with_reducible refine And.intro ?_ ?_|with_reducible rfl|refine cC _ _ zA ?_)
noncomputable def Wx:aC PP II:=aC.S1 32
 (λX args d=>match args with
  |[.ab n 2 f,.ab m 2 g]=>X.bq (Nat.beq n m&&Nat.ble n 400&&Vj n f&&TC n g) (d (.qP [.agg [.str (bu (pM (Pb (pS f) (R4 g)) n)),.str [49]],.agg [.str (bu (pM (P3 (pS f) (R4 g)) n)),.str [49]],.int .i64 0]))
  |_=>X.fail)
 λX sem hX args d h=>by
  split at h
  ·rename_i n f m g
   obtain⟨e,i⟩:=hX.bq _ _ h
   simp only[bf]at e
   obtain⟨⟨⟨a1,a2⟩,b⟩,c⟩:=e
   cases dE a1
   have b:=YD b
   have c:=Xz c
   refine⟨_,i,λ_=>rfl,λ_=>rfl,(adj (S:=pS f) (D:=R4 g) ZD λj a=>⟨(b j a).2.1,(b j a).2.2,(c j a).2⟩).dq ⟨⟨rfl,rfl,λj a=>?_⟩,⟨rfl,rfl,λj a=>?_⟩,trivial⟩⟩
   ·rw[(b j a).1];exact tn _ _ j
   ·rw[(c j a).1];exact Wu _ _ j
  ·exact zR
end Go.Sx
end
section
set_option maxRecDepth 1000000
namespace Go.Sx
open Go
end Go.Sx
end
section
set_option maxRecDepth 1000000
namespace Go.Sx
open Go
end Go.Sx
end
section
set_option maxRecDepth 1000000
namespace Go.Sx
open Go Go.Sort Go.Shelf Go.Proofs
def JY(le:Int->Int->Bool)(a:Int):List Int->List Int
 |[]=>[a]
 |b::l=>bif le a b then a::b::l else b::JY le a l
def zg(le:Int->Int->Bool):List Int->List Int
 |[]=>[]
 |a::l=>JY le a (zg le l)
theorem tq(le)(a):∀l,(JY le a l).Perm (a::l)
 |[]=>List.Perm.refl _
 |b::l=>by
  unfold JY
  cases le a b with
  |true=>rfl
  |false=>exact((tq le a l).cons b).trans Y
theorem xo(le):∀l,(zg le l).Perm l
 |[]=>List.Perm.refl _
 |a::l=>(tq le a _).trans ((xo le l).cons a)
theorem zj{le r}(e:∀x y,le x y=true↔r x y)(f:∀x y c,r x y->r y c->r x c)(d:∀x y,r x y∨r y x)(a):∀{l},l.Pairwise r->(JY le a l).Pairwise r
 |[],_=>List.pairwise_singleton _ _
 |b::l,h=>by
  rw[List.pairwise_cons]at h
  unfold JY
  cases g:le a b with
  |true=>
   have i:=(e _ _).1 g
   exact List.pairwise_cons.2 ⟨λx hx=>Y,ZD⟩
  |false=>
   have j:r b a:=Y
   exact List.pairwise_cons.2 ⟨λx hx=>by rcases List.mem_cons.1 ((tq le a l).mem_iff.1 hx)with rfl|hx;all_goals grind,zj e f d a h.2⟩
theorem xp{le r}(d:∀x y,le x y=true↔r x y)(e:∀x y b,r x y->r y b->r x b)(c:∀x y,r x y∨r y x):∀l,(zg le l).Pairwise r
 |[]=>List.Pairwise.nil
 |a::l=>zj d e c a (xp d e c l)
theorem Dr{le r}(f:∀x y,le x y=true↔r x y)(g:∀x y c,r x y->r y c->r x c)(e:∀x y,r x y∨r y x)(d:∀x y,r x y->r y x->x=y){l m}(h:m.Perm l)(i:m.Pairwise r):m=zg le l :=
 List.Perm.eq_of_pairwise (λa b _ _=>d a b) i (xp f g e l) (h.trans (xo le l).symm)
theorem Bg(x y):ltOf Lib.compareInt x y=decide (x<y):=by
 unfold ltOf Lib.compareInt
 grind
theorem gq(k)(W):(dp (ltOf Lib.compareInt) k W).Pairwise (· <= ·)/\(dp (ltOf Lib.compareInt) k W).Perm ((List.range k).map W):=by
 unfold dp
 refine⟨?_,List.mergeSort_perm _ _⟩
 refine(List.pairwise_mergeSort (le:=λx y=>!ltOf Lib.compareInt y x) (λa b c d e=>?_) (λa b=>?_) _).imp λh=>?_
 ·simp only[Bg,Bool.not_eq_true',iK]at*;omega
 ·simp only[Bg,Bool.or_eq_true,Bool.not_eq_true',iK];omega
 ·simp only[Bg,Bool.not_eq_true',iK]at h;omega
theorem sd(k)(W):(dp (ltOf pP) k W).Pairwise (λx y=>y<=x)/\(dp (ltOf pP) k W).Perm ((List.range k).map W):=by
 have e:∀x y,ltOf pP x y=decide (y<x):=λx y=>Bg y x
 unfold dp
 refine⟨?_,List.mergeSort_perm _ _⟩
 refine(List.pairwise_mergeSort (le:=λx y=>!ltOf pP y x) (λa b c d f=>?_) (λa b=>?_) _).imp λh=>?_
 all_goals grind
def YK(k:Nat)(W:Nat->Int)(i:Nat):Int:=(zg (λx y=>decide (x<=y)) ((List.range k).map W)).getD i 0
def YL(k:Nat)(W:Nat->Int)(i:Nat):Int:=(zg (λx y=>decide (y<=x)) ((List.range k).map W)).getD i 0
theorem tu:bQ=YK:=by
 funext k W i
 unfold bQ YK
 rw[Dr (r:=(· <= ·)) (le:=λx y=>decide (x<=y)) zA O Int.le_total O (gq k W).2 (gq k W).1]
theorem tw:cK=YL:=by
 funext k W i
 unfold cK YL
 rw[Dr (r:=λx y=>y<=x) (le:=λx y=>decide (y<=x)) zA O O O (sd k W).2 (sd k W).1]
end Go.Sx
end
section
namespace Go.Sx
theorem XB{l m:List Int}(h:l.Perm m):l.sum=m.sum:=by
 induction h with
 |nil=>rfl
 |cons x _ a=>rw[List.sum_cons,List.sum_cons,a]
 |swap x y l=>simp only[List.sum_cons];omega
 |trans _ _ h1 b=>exact h1.trans b
theorem Zz(W:Nat->Int):∀k,du W k=((List.range k).map W).sum
 |0=>rfl
 |k+1=>by
  show du W k+W k=_
  rw[List.range_succ,List.map_append,List.sum_append,Zz W k];simp
end Go.Sx
end
section
set_option maxRecDepth 100000
namespace Go.Sx
open Go Go.Sort Go.Shelf Go.Proofs
def ack(q:Query)(k:Nat)(W:Nat->Int):List UInt8×List UInt8:=(c8 q k W,da q k W)
theorem YH(a:Nat)(V:Nat->Int)(l:List Int)(i:Nat)(hi:i<=l.length):(List.range (a+i)).map (jB a V λj=>l.getD j 0)=(List.range a).map V++l.take i:=by
 rw[List.range_add,List.map_append,List.map_map]
 congr 1
 ·refine List.map_congr_left λj b=>?_
  show(bif Nat.blt j a then V j else _)=V j
  rw[eV (List.mem_range.1 b)];rfl
 ·refine List.ext_getElem zJ λj c d=>?_
  rw[List.length_map,List.length_range]at c
  simp only[List.getElem_map,List.getElem_range,Function.comp,List.getElem_take]
  show(bif Nat.blt (a+j) a then V (a+j)else l.getD (a+j-a) 0)=l[j]
  rw[js O,show a+j-a=j by omega,List.getD_eq_getElem?_getD,mo O];rfl
theorem VM(p:Nat->Bool)(W:Nat->Int)(k:Nat):(List.range (aP p k)).map (bS p W k)=((List.range k).filter p).map W:=by
 have:=wD (((List.range k).filter p).map W)
 rw[List.length_map]at this
 exact this
theorem aaN(l:List Int)(i:Nat)(hi:i<=l.length):(List.range i).map (λj=>l.getD j 0)=l.take i:=by
 have:=YH 0 (λ_=>0) l i hi
 rw[Nat.zero_add]at this
 exact this
theorem abf(q:Query)(k:Nat)(W:Nat->Int)(C:Nat->Bool)(l:List Int)(i:Nat)(hi:i<=l.length):∃a:Nat->Int,ru q (aP C k) (bS C W k) (λj=>l.getD j 0) i=ack q (aP C k+i) a/\(List.range (aP C k+i)).map a=((List.range k).filter C).map W++l.take i:=by
 cases i with
 |zero=>exact⟨bS C W k,rfl,by rw[Nat.add_zero,VM,List.take_zero,List.append_nil]⟩
 |succ i=>exact⟨jB (aP C k) (bS C W k) λj=>l.getD j 0,rfl,by rw[YH _ _ _ _ hi,VM]⟩
theorem aaB(q:Query)(l:List Int)(i:Nat)(hi:i<=l.length):∃a:Nat->Int,br q (λj=>l.getD j 0) i=ack q i a/\(List.range i).map a=l.take i:=by
 cases i with
 |zero=>exact⟨λ_=>0,rfl,rfl⟩
 |succ i=>exact⟨λj=>l.getD j 0,rfl,aaN l _ hi⟩
theorem acm{C:Nat->Bool}{k:Nat}(h:(List.range k).any C=false):(List.range k).filter C=[]/\((List.range k).filter λj=>!C j)=List.range k:=by
 rw[List.any_eq_false]at h
 exact⟨List.filter_eq_nil_iff.2 h,List.filter_eq_self.2 λa ha=>by simp[h a ha]⟩
end Go.Sx
end
