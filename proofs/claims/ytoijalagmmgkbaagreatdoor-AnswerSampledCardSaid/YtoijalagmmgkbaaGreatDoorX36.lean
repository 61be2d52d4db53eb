/- Lemmas, part 36. -/
import Derived.Test.YtoijalagmmgkbaaGreatDoorX35
set_option linter.all false
set_option linter.defProp false
section
set_option maxRecDepth 100000
namespace Go.Sx
open Go Go.Sort Go.Shelf Go.Proofs
theorem VN{q}(ha:q.a=2){c b l}(h:(List.range c).map b=l):ack q c b=(bu l.sum.toNat,[49]):=by
 subst h
 have e:jO q c b=(((List.range c).map b).sum.toNat,1):=by
  unfold jO
  by_cases h:c=0
  ·subst h;rfl
  ·rw[if_neg h,if_neg O,if_pos ha,Zz]
 unfold ack c8 da
 rw[e]
 show(bu (_/Nat.gcd _ 1),bu (1/Nat.gcd _ 1))=_
 rw[Nat.gcd_one_right,Nat.div_one,Nat.div_one,GR]
theorem TD{R}{s:Nat->Nat}{m}(a:∀i,i<=m->R i=(bu (s i),[49]))(b:∀i,i<=m->s 0<=s i):∀i,i<=m->aS (λc=>decide (c<0)) R i=(bu (s 0),[49])
 |0,h=>a 0 h
 |i+1,h=>by
  show(match decide (bw (ao (R (i+1)).1) (ao (R (i+1)).2) (ao (aS (λc=>decide (c<0)) R i).1) (ao (aS (λc=>decide (c<0)) R i).2)<0)with|true=>R (i+1)|false=>aS (λc=>decide (c<0)) R i)=_
  have:=b (i+1) h
  rw[TD a b i O,a (i+1) h,LJ,if_neg O]
  grind
theorem TF{R}{s:Nat->Nat}{m}(a:∀i,i<=m->R i=(bu (s i),[49]))(b:∀i,i<m->s i<=s (i+1)):∀i,i<=m->aS (λc=>decide (c>0)) R i=(bu (s i),[49])
 |0,h=>a 0 h
 |i+1,h=>by
  show(match decide (bw (ao (R (i+1)).1) (ao (R (i+1)).2) (ao (aS (λc=>decide (c>0)) R i).1) (ao (aS (λc=>decide (c>0)) R i).2)>0)with|true=>R (i+1)|false=>aS (λc=>decide (c>0)) R i)=_
  have:=b i h
  rw[TF a b i O,a (i+1) h,LJ,if_neg O]
  grind
theorem T9{l:List Int}(h:∀x,x∈l->0<=x):∀i,0<=(l.take i).sum/\(l.take i).sum<=(l.take (i+1)).sum:=by
 have a:∀{l:List Int},(∀x,x∈l->0<=x)->0<=l.sum:=λ{l} h=>by
  induction l with
  |nil=>exact Int.le_refl _
  |cons x l b=>rw[List.sum_cons];have:=h x List.mem_cons_self;grind
 grind
theorem Wy{W:Nat->Int}{k}(h:∀i,i<k->0<=W i)(p):∀x,x∈((List.range k).filter p).map W->0<=x:=λx hx=>by
 grind
theorem sum_nat(l:List Int)(h:∀x,x∈l->0<=x):0<=l.sum:=by
 have:=(T9 h l.length).1
 grind
theorem aaO{q}(ha:q.a=2)(k)(W)(C)(h:∀i,i<k->0<=W i):eO q k W C=(bu (((List.range k).filter C).map W).sum.toNat,[49]):=by
 have c0:=sum_nat _ (Wy h C)
 unfold eO
 cases d:(List.range k).any C with
 |true=>
  have up:=(gq (aP (λi=>!C i) k) (bS (λi=>!C i) W k)).2
  rw[VM]at up
  have hl:=up.length_eq
  rw[List.length_map]at hl
  have c:∀x,x∈dp (ltOf Lib.compareInt) (aP (λi=>!C i) k) (bS (λi=>!C i) W k)->0<=x:=λx hx=>Y
  refine(TD (s:=λi=>((((List.range k).filter C).map W)++(dp (ltOf Lib.compareInt) (aP (λi=>!C i) k) (bS (λi=>!C i) W k)).take i).sum.toNat) (m:=aP (λi=>!C i) k) (λi hi=>?_) (λi _=>?_) _ (dw _)).trans zA
  ·obtain⟨b,a1,a2⟩:=abf q k W C (dp (ltOf Lib.compareInt) (aP (λi=>!C i) k) (bS (λi=>!C i) W k)) i (by rw[hl];exact hi)
   exact a1.trans (VN ha a2)
  ·have:=(T9 c i).1
   grind
 |false=>
  have up:=(gq k W).2
  have hl:=up.length_eq
  rw[List.length_map,List.length_range]at hl
  have c:∀x,x∈dp (ltOf Lib.compareInt) k W->0<=x:=λx hx=>by
   grind
  rw[(acm d).1]
  refine(TD (s:=λi=>((dp (ltOf Lib.compareInt) k W).take i).sum.toNat) (m:=k) (λi hi=>?_) (λi _=>?_) _ (dw _)).trans A
  ·obtain⟨b,a1,a2⟩:=aaB q (dp (ltOf Lib.compareInt) k W) i (by rw[hl];exact hi)
   exact a1.trans (VN ha a2)
  simp
theorem aaP{q}(ha:q.a=2)(k)(W)(C)(h:∀i,i<k->0<=W i):dQ q k W C=(bu ((List.range k).map W).sum.toNat,[49]):=by
 have c0:=sum_nat _ (Wy h C)
 unfold dQ
 cases e:(List.range k).any C with
 |true=>
  have c:=(sd (aP (λi=>!C i) k) (bS (λi=>!C i) W k)).2
  rw[VM]at c
  have hl:=c.length_eq
  rw[List.length_map]at hl
  have d:∀x,x∈dp (ltOf pP) (aP (λi=>!C i) k) (bS (λi=>!C i) W k)->0<=x:=λx hx=>Y
  have all:((((List.range k).filter C).map W)++(dp (ltOf pP) (aP (λi=>!C i) k) (bS (λi=>!C i) W k)).take (aP (λi=>!C i) k)).sum=((List.range k).map W).sum:=by
   have ht:(dp (ltOf pP) (aP (λi=>!C i) k) (bS (λi=>!C i) W k)).take (aP (λi=>!C i) k)=dp (ltOf pP) (aP (λi=>!C i) k) (bS (λi=>!C i) W k):=List.take_of_length_le (Nat.le_of_eq hl)
   rw[ht,List.sum_append,XB c,<-List.sum_append,<-List.map_append]
   exact XB (List.Perm.map W (List.filter_append_perm C (List.range k)))
  refine(TF (s:=λi=>((((List.range k).filter C).map W)++(dp (ltOf pP) (aP (λi=>!C i) k) (bS (λi=>!C i) W k)).take i).sum.toNat) (m:=aP (λi=>!C i) k) (λi hi=>?_) (λi _=>?_) _ (dw _)).trans (by rw[all])
  ·obtain⟨b,a1,a2⟩:=abf q k W C (dp (ltOf pP) (aP (λi=>!C i) k) (bS (λi=>!C i) W k)) i (by rw[hl];exact hi)
   exact a1.trans (VN ha a2)
  ·have:=(T9 d i).2
   grind
 |false=>
  have c:=(sd k W).2
  have hl:=c.length_eq
  rw[List.length_map,List.length_range]at hl
  have d:∀x,x∈dp (ltOf pP) k W->0<=x:=λx hx=>by
   grind
  refine(TF (s:=λi=>((dp (ltOf pP) k W).take i).sum.toNat) (m:=k) (λi hi=>?_) (λi _=>?_) _ (dw _)).trans (by rw[List.take_of_length_le (Nat.le_of_eq hl),XB c])
  ·obtain⟨b,a1,a2⟩:=aaB q (dp (ltOf pP) k W) i (by rw[hl];exact hi)
   exact a1.trans (VN ha a2)
  ·have:=(T9 d i).2
   omega
end Go.Sx
end
section
set_option maxRecDepth 100000
namespace Go.Sx
open Go
def Ea(q:Query)(k:Nat)(W:Nat->Int)(C:Nat->Bool):Nat:=if q.a=1 then aP C k else(((List.range k).filter C).map W).sum.toNat
def AY(q:Query)(k:Nat)(W:Nat->Int):Nat:=if q.a=1 then k else((List.range k).map W).sum.toNat
theorem zZ{q:Query}(ha:q.a=1∨q.a=2)(k:Nat)(W:Nat->Int)(C:Nat->Bool)(h:∀i,i<k->0<=W i):eO q k W C=(bu (Ea q k W C),[49]):=by
 unfold Ea
 rcases ha with e|e
 ·rw[if_pos e];exact zu e k W C
 ·rw[if_neg O];exact aaO e k W C h
theorem ZW{q:Query}(ha:q.a=1∨q.a=2)(k:Nat)(W:Nat->Int)(C:Nat->Bool)(h:∀i,i<k->0<=W i):dQ q k W C=(bu (AY q k W),[49]):=by
 unfold AY
 rcases ha with e|e
 ·rw[if_pos e];exact zK e k W C
 ·rw[if_neg O];exact aaP e k W C h
end Go.Sx
end
section
set_option maxRecDepth 1000000
namespace Go.Sx
open Go
noncomputable def abg:aC PP II:=aC.pure 131
 (λX args b=>match args with
  |[.str s]=>X.bq (isNat s&&Nat.blt (ao s) 1000) (b (.qP [.int .i64 (Int.ofNat (ao s)),.nilIface]))
  |_=>X.fail)
 λX sem hX args b h=>by
  split at h
  ·rename_i s
   obtain⟨a,c⟩:=hX.bq _ _ h
   rw[bf,Nat.blt_eq]at a
   obtain⟨e,t⟩:=iC a.1
   have hl:(Lib.decDigits (ao s)).length<=18:=Nat.le_trans (Av (Nat.le_of_lt a.2)) (by decide+kernel)
   obtain⟨a1,a2⟩:=LZ hl
   have:=P7 a1 O
   rw[a2,show Lib.decDigits (ao s)=s from e.symm]at this
   exact⟨_,c,λ_=>rfl,λ_=>rfl,this⟩
  ·exact zR
noncomputable def ad2:aC PP II:=aC.l8 133
 (λX args a=>match args with
  |[.int .i64 1,.int .i64 n]=>X.bq (decide (0<n)&&decide (n<1000)) (a (.qP [.agg [.str [49],.str (bu n.toNat)],.int .i64 0]))
  |_=>X.fail)
 λX sem hX args a h=>by
  split at h
  ·rename_i n
   obtain⟨b,c⟩:=hX.bq _ _ h
   simp only[bf,bn]at b
   have:=T3 (n:=1) (d:=n.toNat) O O O
   rw[Int.toNat_of_nonneg O]at this
   refine⟨_,c,λ_=>rfl,λ_=>rfl,?_⟩
   have e:kA 1 n.toNat= .agg [.str [49],.str (bu n.toNat)]:=by
    unfold kA
    rw[Nat.gcd_one_left,Nat.div_one,Nat.div_one,GR]
   grind
  ·exact zR
theorem aco(d)(Q):(kp [abg,ad2] [] 117 [.agg [.str [49],.str d]] Q)=(aa (isNat d&&Nat.blt (ao d) 1000) (ah (decide (1<=Int.ofNat (ao d))) (ah (!decide (Int.ofNat (ao d)<=1000)) (Q (AV.int .i64 0)) (aa (decide (0<Int.ofNat (ao d))&&decide (Int.ofNat (ao d)<1000)) (aa (decide (d=d)&&true) (ah (!(List.beq d (bu (Int.toNat (Int.ofNat (ao d))))&&true)) (Q (AV.int .i64 0)) (Q (AV.int .i64 (Int.ofNat (ao d)))))))) (Q (AV.int .i64 0)))):=U
def aaQ(x:ay)(d:List UInt8):List AV:=[.int .i64 x.t,.int .i64 x.s,.int .i64 x.v,.int .i64 x.w,.int .i64 x.o,.int .i64 x.p,.int .i64 x.d,.int .i64 x.l,.int .i64 x.h,.int .i64 x.b,.str [49],.str d]
def gW(F:Nat->ay)(D:Nat->List UInt8)(j:Nat):List AV:=aaQ (F j) (D j)
noncomputable def Jr(n:Nat)(F:Nat->ay)(D:Nat->List UInt8)(m:Int->Nat)(i:Int):St:={t:=Tr.ofList [(1,.fn 173 [] []),(4,.own 12 (m i) 10),(9,.ab n 12 (gW F D)),(10,.int .i64 (Int.ofNat n)),(11,.int .i64 i)],nt:=30,H:={n:=13,t:=Tr.ofList [(12,.rows (m i) 10 (λj=>eD (F j)) (.ty 48))]},df:=[]}
theorem acp(n)(F)(D)(m)(i)(Q):(kr [] [] 172 2001 12 (Jr n F D m) (λ_=>Vq n F) (λi=>i+1) Q i)=(ah (decide (i<Int.ofNat n)) (aa (decide (0<=i)&&decide (i<Int.ofNat n)) (aa (decide (m i<=m i)&&true&&true&&decide ((m i+1)*80<=140737488355328)&&true) (aa (aN .i64 (i+1)) (ax (m i+1) (m (i+1)) ((an (m i+1) (λa=>bif Nat.blt a (m i)then eD (F a)else List.take 10 (List.drop (0+(a-m i)*10) [AV.int .i64 (ay.t (F i.toNat)),AV.int .i64 (ay.s (F i.toNat)),AV.int .i64 (ay.v (F i.toNat)),AV.int .i64 (ay.w (F i.toNat)),AV.int .i64 (ay.o (F i.toNat)),AV.int .i64 (ay.p (F i.toNat)),AV.int .i64 (ay.d (F i.toNat)),AV.int .i64 (ay.l (F i.toNat)),AV.int .i64 (ay.h (F i.toNat)),AV.int .i64 (ay.b (F i.toNat))])) λj=>eD (F j))/\zyI (i+1) (zyN n (zyR n (gW F D) (ax (m i+1) (m (i+1)) (zyI (Int.ofNat n) Q))))))))) (ax (m i) n ((an (m i) (λj=>eD (F j)) λj=>eD (F j))/\ax (m i) n True))):=U
theorem adl(n)(F)(D)(m)(Q):(kb [] [(2001,12,Jr n F D m 0,Vq n F)] 118 [.ab n 12 (gW F D)] Q)=(eu PP II false (aD II 172 2001) 12 (Jr n F D m 0) (Vq n F)/\ax (m 0) 0 (zyN n (zyR n (gW F D) (ax (m 0) 0 (zyI (Int.ofNat n) (aa ((List.all (List.range n) λi=>bt.free (eD (F i)))&&decide (n<=n)) (Q (AV.ab n 10 λj=>eD (F j))))))))):=U
end Go.Sx
end
section
set_option maxRecDepth 1000000
namespace Go.Sx
open Go
theorem Rg(σ)(F)(D)(j):bt.le σ (gW F D j) (gW F D j):=⟨⟨rfl,rfl⟩,⟨rfl,rfl⟩,⟨rfl,rfl⟩,⟨rfl,rfl⟩,⟨rfl,rfl⟩,⟨rfl,rfl⟩,⟨rfl,rfl⟩,⟨rfl,rfl⟩,⟨rfl,rfl⟩,⟨rfl,rfl⟩,rfl,rfl,trivial⟩
theorem Rz(n)(F)(D):an n (gW F D) (gW F D):=λj _ σ=>Rg σ F D j
theorem aaR(n)(F:Nat->ay):an n (λj=>eD (F j)) λj=>eD (F j):=λ_ _ σ=>cL σ _
noncomputable def abh:aC PP II:=aC.l8 117
 (λX args c=>match args with
  |[.agg [.str [49],.str d]]=>X.bq (isNat d&&Nat.blt 0 (ao d)&&Nat.blt (ao d) 10) (c (.int .i64 (Int.ofNat (ao d))))
  |_=>X.fail)
 λX sem hX args c h=>by
  split at h
  ·rename_i d
   obtain⟨a,f⟩:=hX.bq _ _ h
   simp only[bf,Nat.blt_eq]at a
   refine⟨_,f,λ_=>rfl,λ_=>rfl,kz (ks:=[abg,ad2]) (T:=[]) ?_⟩
   have e:Int.ofNat (ao d)=(ao d:Int):=rfl
   have b:List.beq d (bu (ao d))=true:=by
    rw[<-(iC a.1.1).1];exact Cg d
   rw[aco,a.1.1,show Int.toNat (Int.ofNat (ao d))=ao d from rfl,b]
   refine cC _ _ (by rw[Nat.blt_eq.mpr O];rfl) (Zg (λ_=>Zh (λh=>?_) λ_=>cC _ _ ?_ (cC _ _ zA λ_=>⟨rfl,rfl⟩)) O)
   all_goals grind
  ·exact zR
theorem acq{n F D}(hn:n<=400):eu PP II false (aD II 172 2001) 12 (Jr n F D Int.toNat 0) (Vq n F):=by
 refine eu.wL [] (n:=n) A λk d Q hQ=>?_
 have f:Int.ofNat n=(n:Int):=rfl
 rw[acp,show Int.toNat (k:Int)=k from rfl,show Int.toNat ((k:Int)+1)=k+1 by omega]
 refine Zg (λh=>?_) λh=>?_
 ·have a:k<n:=by omega
  have b:(decide ((0:Int)<=(k:Int))&&decide ((k:Int)<Int.ofNat n))=true:=by simp only[bf,bn];omega
  have c:(decide (k<=k)&&true&&true&&decide ((k+1)*80<=140737488355328)&&true)=true:=by rw[bW (dw k),bW O];rfl
  exact cC _ _ b (cC _ _ c (cC _ _ (aq O O) (YG A ⟨pn (λj=>eD (F j)) k (λj σ=>cL σ _) A,Zf A (YG A ⟨Rz _ _ _,YG A (Zf A (hQ a))⟩)⟩)))
 ·have e:k=n:=by omega
  subst e
  exact YG A ⟨aaR _ _,YG A trivial⟩
theorem adm{n F D}(hn:n<=400):af PP II 118 [.ab n 12 (gW F D)] (AH.blank 12) (.ret (vo n F) (AH.blank 12)):=by
 refine bY (ks:=[]) (T:=[(2001,12,Jr n F D Int.toNat 0,Vq n F)]) (λσ=>⟨rfl,rfl,λj _=>cL σ _⟩) ?_
 rw[adl]
 refine⟨acq hn,YG A (YG A ⟨Rz _ _ _,YG A (Zf A (cC _ _ ?_ A))⟩)⟩
 rw[bW (dw n),Bool.and_true]
 exact List.all_eq_true.2 λ_ _=>rfl
def abi:List AV->Option (ay×List UInt8)
 |[.int .i64 t,.int .i64 s,.int .i64 v,.int .i64 w,.int .i64 o,.int .i64 p,.int .i64 d,.int .i64 l,.int .i64 h,.int .i64 b,.str [49],.str u]=>some (⟨t,s,v,w,o,p,d,l,h,b⟩,u)
 |_=>none
def Oq(f:Nat->List AV)(i:Nat):ay:=match abi (f i)with|some x=>x.1|none=>⟨0,0,0,0,0,0,0,0,0,0⟩
def VO(f:Nat->List AV)(i:Nat):List UInt8:=match abi (f i)with|some x=>x.2|none=>[]
def aan(n:Nat)(f:Nat->List AV):Bool:=(List.range n).all λi=>(abi (f i)).isSome
theorem Y6{n f}(h:aan n f=true):AV.le (λl=>l) (.ab n 12 f) (.ab n 12 (gW (Oq f) (VO f))):=by
 refine⟨rfl,rfl,λi hi=>?_⟩
 have:=List.all_eq_true.1 h i (List.mem_range.2 hi)
 unfold gW Oq VO
 cases hx:abi (f i)with
 |none=>grind
 |some x=>
  simp only
  have e:f i=aaQ x.1 x.2:=by
   unfold abi at hx
   split at hx
   ·rename_i e;cases hx;exact e
   ·cases hx
  rw[e];exact Rg _ (λ_=>x.1) (λ_=>x.2) 0
theorem XC(n)(F)(D):aan n (gW F D)=true:=List.all_eq_true.2 λ_ _=>rfl
noncomputable def ad3:aC PP II:=aC.pure 118
 (λX args a=>match args with
  |[.ab n 12 f]=>X.bq (aan n f&&Nat.ble n 400) (a (vo n (Oq f)))
  |_=>X.fail)
 λX sem hX args a h=>by
  split at h
  ·obtain⟨b,c⟩:=hX.bq _ _ h
   rw[bf]at b
   exact⟨_,c,λ_=>rfl,λ_=>rfl,(adm ZD).dq ⟨Y6 b.1,trivial⟩⟩
  ·exact zR
noncomputable def K0(n:Nat)(F:Nat->ay)(D:Nat->List UInt8)(i:Int):St:={t:=Tr.ofList [(0,.ab n 12 (gW F D)),(5,.ab n 12 (gW F D)),(6,.int .i64 (Int.ofNat n)),(7,.int .i64 i)],nt:=48,H:={n:=12,t:=Tr.ofList [(6,.cells dz (.ex 20))]},df:=[]}
noncomputable def K1(n:Nat)(F:Nat->ay)(D:Nat->List UInt8):GE:=.one (.x 0 {t:=Tr.ofList [(0,.ab n 12 (gW F D))],nt:=48,H:={n:=12,t:=Tr.ofList [(6,.cells dz (.ex 20))]},df:=[]})
theorem acr(n)(F)(D)(i)(Q):(kr [abh] [] 54 2001 12 (K0 n F D) (λ_=>K1 n F D) (λi=>i+1) Q i)=(let a:=(aa (aN .i64 (i+1)) (zyI (i+1) (zyN n (zyR n (gW F D) (zyN n (zyR n (gW F D) (zyI (Int.ofNat n) Q)))))));let b:=(decide (0<=i-1)&&decide (i-1<Int.ofNat n));(ah (decide (i<Int.ofNat n)) (aa (decide (0<=i)&&decide (i<Int.ofNat n)) (aa (isNat (D i.toNat)&&Nat.blt 0 (ao (D i.toNat))&&Nat.blt (ao (D i.toNat)) 10) (ah (decide (Int.ofNat (ao (D i.toNat))=0)) False (ah (decide (i>0)) (aa (aN .i64 (i-1)) (aa b (ah (decide (ay.t (F i.toNat)=ay.t (F (Int.toNat (i-1))))) (aa (aN .i64 (i-1)) (aa b (ah (!(List.beq (D i.toNat) (D (Int.toNat (i-1)))&&true)) False a))) a))) a)))) (zyN n (zyR n (gW F D) True)))):=U
theorem adp(n)(F)(D)(Q):(kp [ad3,uT] [(2001,12,K0 n F D 0,K1 n F D)] 54 [.ab n 12 (gW F D)] Q)=(eu PP II false (aD II 54 2001) 12 (K0 n F D 0) (K1 n F D)/\zyN n (zyR n (gW F D) (zyN n (zyR n (gW F D) (zyI (Int.ofNat n) (aa (aan n (gW F D)&&Nat.ble n 400) (aa (decide (n<=1000000)&&fh n λi=>eD (Oq (gW F D) i)) (Q (AV.bool (cX n (bP λi=>eD (Oq (gW F D) i)))))))))))):=U
end Go.Sx
end
section
set_option maxRecDepth 1000000
namespace Go.Sx
open Go
set_option maxHeartbeats 0 in
theorem acs{n:Int}(a:1<=n)(b:n<=9):af PP II 48 [.int .i64 n] (AH.blank 12) (.ret (.agg [.str [49],.str (bu n.toNat)]) (AH.blank 12)):=by
 have go:∀{m:Int},(∀Q:AV->Prop,kb [] [] 48 [.int .i64 m] Q=Q (.agg [.str [49],.str (bu m.toNat)]))->af PP II 48 [.int .i64 m] (AH.blank 12) (.ret (.agg [.str [49],.str (bu m.toNat)]) (AH.blank 12)):=λ{m} k=>by
  refine bY (ks:=[]) (T:=[]) (λ_=>⟨rfl,rfl,trivial⟩) ?_
  rw[k]
 have:n=1∨n=2∨n=3∨n=4∨n=5∨n=6∨n=7∨n=8∨n=9:=O
 rcases this with rfl|rfl|rfl|rfl|rfl|rfl|rfl|rfl|rfl
 all_goals exact go λQ=>by as_aux_lemma=>kernel_rfl
noncomputable def abj:aC PP II:=aC.pure 48
 (λX args b=>match args with
  |[.int .i64 n]=>X.bq (decide (1<=n)&&decide (n<=9)) (b (.agg [.str [49],.str (bu n.toNat)]))
  |_=>X.fail)
 λX sem hX args b h=>by
  split at h
  ·obtain⟨a,c⟩:=hX.bq _ _ h
   simp only[bf,bn]at a
   exact⟨_,c,λ_=>rfl,λ_=>rfl,acs a.1 a.2⟩
  ·exact zR
end Go.Sx
end
section
set_option maxRecDepth 100000
namespace Go.Sx
open Go Go.Sort Go.Shelf Go.Proofs
end Go.Sx
end
section
set_option maxRecDepth 100000
namespace Go.Sx
open Go
end Go.Sx
end
section
set_option maxRecDepth 1000000
namespace Go.Sx
open Go
def ur(i:Nat):ay:=match i with|0=>⟨0,0,0,0,0,-1,0,10,20,1⟩|1=>⟨0,1,0,0,0,0,0,12,12,2⟩|_=>⟨0,2,0,0,0,0,0,5,30,4⟩
def zm(nw:Nat)(op a fl:Int)(nu de:List UInt8):Query:=⟨nw,λ_ k=>match k with|0=>8|1=>op|_=>12,0,λ_=>0,a,fl,nu,de,0⟩
def oX(a fl:Int):Query×List UInt8×List UInt8 :=
 if a=1 then(zm 1 4 1 0 [] [],[49],[51])else if a=2 then(if fl=8 then(zm 0 0 2 8 [] [],[50,55],[54,50])else(zm 1 4 2 7 [] [],[50],[55]))
 else if a=3 then(zm 1 4 3 8 [] [],[49,50],[50,49])else if a=4 then(zm 1 3 4 8 [] [],[48],[49,49])else(zm 0 0 5 8 [49] [50],[49,48],[50,48])
def Dv(lo hi:List UInt8):AV:=.qP [.ab 1 9 (λ_=>[.ab 0 1 (λ_=>[]),.str lo,.str [49],.str hi,.str [49],.str [48],.str [49],.str [48],.str [49]]),.int .i64 0]
def VP(q:Query)(lo hi:List UInt8):Prop:=(r8 q 3 ur,oU q 3 ur 0 0,oU q 3 ur 0 1,oU q 3 ur 0 2,oU q 3 ur 0 3)=(1,lo,[49],hi,[49])
theorem Y0:VP (zm 1 4 1 0 [] []) [49] [51]:=by
 delta VP oU jC eO dQ ru br c8 da jO iD
 rw[tu,tw]
 kernel_rfl
theorem Sn:VP (zm 0 0 2 8 [] []) [50,55] [54,50]:=by
 delta VP oU jC eO dQ ru br c8 da jO iD
 rw[tu,tw]
 kernel_rfl
theorem Yg:VP (zm 1 4 2 7 [] []) [50] [55]:=by
 delta VP oU jC eO dQ ru br c8 da jO iD
 rw[tu,tw]
 kernel_rfl
theorem Y2:VP (zm 1 4 3 8 [] []) [49,50] [50,49]:=by
 delta VP oU jC eO dQ ru br c8 da jO iD
 rw[tu,tw]
 kernel_rfl
theorem Y3:VP (zm 1 3 4 8 [] []) [48] [49,49]:=by
 delta VP oU jC eO dQ ru br c8 da jO iD
 rw[tu,tw]
 kernel_rfl
theorem Y4:VP (zm 0 0 5 8 [49] [50]) [49,48] [50,48]:=by
 delta VP oU jC eO dQ ru br c8 da jO iD
 rw[tu,tw]
 kernel_rfl
theorem S3(a fl):VP (oX a fl).1 (oX a fl).2.1 (oX a fl).2.2/\ct (oX a fl).1=true/\(oX a fl).1.ng=0:=by
 unfold oX
 split
 ·exact⟨Y0,U,rfl⟩
 split
 ·split
  ·exact⟨Sn,U,rfl⟩
  ·exact⟨Yg,U,rfl⟩
 split
 ·exact⟨Y2,U,rfl⟩
 split
 ·exact⟨Y3,U,rfl⟩
 ·exact⟨Y4,U,rfl⟩
theorem Ht{n g:Nat}{K:Nat->Nat->Int}{S:Nat->Nat->List UInt8}{lo hi:List UInt8}(a:g=0)(hn:n=1)(b:S 0 0=lo)(c:S 0 1=[49])(d:S 0 2=hi)(e:S 0 3=[49]):
  AV.le (λl=>l) (.qP [.ab n 9 (aX g K S),.int .i64 0]) (Dv lo hi):=by
 subst a hn b d
 refine⟨⟨rfl,rfl,λi hi=>?_⟩,⟨rfl,rfl⟩,trivial⟩
 have:i=0:=O
 subst this
 refine⟨⟨rfl,rfl,λj f=>absurd f (lZ j)⟩,rfl,c,rfl,e,rfl,rfl,rfl,rfl,trivial⟩
theorem af.S4{P:Program}{I:ba}{f:FuncId}{args:List AV}{H:AH}{a a':AV}(h:af P I f args H (.ret a H))(k:AV.le (λl=>l) a a'):af P I f args H (.ret a' H):=λc ρ w vs hG j m=>by
 have post:∀e w',(CO.ret a H).post c ρ e w'->(CO.ret a' H).post c ρ e w':=λe w' i=>by
  cases e with
  |returned v=>
   obtain⟨ρ',b,d,o⟩:=i
   refine⟨ρ',b,d,?_⟩
   obtain⟨u,us,e,q,_⟩:=aU.tQ (show bt.le _ [a] [a']from⟨k,trivial⟩) (aU.aL.2 ⟨o,(rfl:aU ρ' [] [])⟩)
   grind
  |panicked s=>exact i.elim
  |outgrown=>exact i.elim
 rcases h c ρ w vs hG j m with⟨b,d⟩|⟨v,w',b,d⟩
 ·exact .inl ⟨b,d.mono post⟩
 grind
theorem UO(a fl):af PP II 13 [.agg (aY (oX a fl).1),vo 3 ur] HR (.ret (Dv (oX a fl).2.1 (oX a fl).2.2) HR):=by
 obtain⟨b,c,d⟩:=S3 a fl
 simp only[VP,Prod.mk.injEq]at b
 obtain⟨e,e1,f,g,h⟩:=b
 exact(A8 (k:=3) (F:=ur) c U).S4 (Ht d e e1 f g h)
end Go.Sx
end
section
set_option maxRecDepth 1000000
namespace Go.Sx
open Go
noncomputable def Pd(n:Nat)(B:Nat->Int)(C:Int->Nat->Int)(i:Int):St:={t:=Tr.ofList [(1,.ab n 1 (ae B)),(2,.fn 61 [] []),(7,.slice 12 0 0 n (some n) 1),(18,.ab n 1 (ae B)),(19,.int .i64 (Int.ofNat n)),(20,.int .i64 i)],nt:=38,H:={n:=13,t:=Tr.ofList [(12,.rows n 1 (ae (C i)) (.ty 3))]},df:=[]}
noncomputable def Pe(n:Nat)(C:Nat->Int):GE:=.one (.x 0 {t:=Tr.ofList [(7,.slice 12 0 0 n (some n) 1)],nt:=38,H:={n:=13,t:=Tr.ofList [(12,.rows n 1 (ae C) (.ty 3))]},df:=[]})
theorem Oy(n)(B)(C)(Z)(i)(Q):(kr [] [] 174 4001 13 (Pd n B C) (λ_=>Pe n Z) (λi=>i+1) Q i)=(let a:=(decide (0<=i)&&decide (i<Int.ofNat n));(ah (decide (i<Int.ofNat n)) (aa a (aa (decide (0+i.toNat<n)) (aa a (aa (aN .i64 (C i (0+i.toNat)+B i.toNat)) (aa a (aa (decide (0+i.toNat<n)) (aa (aN .i64 (i+1)) (zyN n (an n (λb=>[AV.int .i64 (bif decide (b=0+i.toNat)then C i (0+i.toNat)+B i.toNat else C i b)]) (ae (C (i+1)))/\zyN n (zyN n (zyI (Int.ofNat n) (zyN n (zyR n (ae B) (zyI (i+1) (zyN n (zyR n (ae B) Q)))))))))))))))) (zyN n (an n (ae (C i)) (ae Z)/\zyN n (zyN n True))))):=U
theorem UP(n)(a B)(C)(Z)(Q):(kb [] [(4001,13,Pd n B C 0,Pe n Z)] 174 [.ab n 1 (ae a),.ab n 1 (ae B),.fn 61 [] []] Q)=(aa (decide (0<=if Int.ofNat n>Int.ofNat n then Int.ofNat n else Int.ofNat n)&&decide ((if Int.ofNat n>Int.ofNat n then Int.ofNat n else Int.ofNat n)<=if Int.ofNat n>Int.ofNat n then Int.ofNat n else Int.ofNat n)&&xF (8*if Int.ofNat n>Int.ofNat n then Int.ofNat n else Int.ofNat n) 281474976710656&&xF (if Int.ofNat n>Int.ofNat n then Int.ofNat n else Int.ofNat n) 9223372036854775807) (aa (decide ((0+if n<=Int.toNat (if Int.ofNat n>Int.ofNat n then Int.ofNat n else Int.ofNat n)then n else Int.toNat (if Int.ofNat n>Int.ofNat n then Int.ofNat n else Int.ofNat n))<=Int.toNat (if Int.ofNat n>Int.ofNat n then Int.ofNat n else Int.ofNat n))) (eu PP II false (aD II 174 4001) 13 (Pd n B C 0) (Pe n Z)/\ax (Int.toNat (if Int.ofNat n>Int.ofNat n then Int.ofNat n else Int.ofNat n)) n (an (Int.toNat (if Int.ofNat n>Int.ofNat n then Int.ofNat n else Int.ofNat n)) (λi=>bif Nat.ble 0 i&&Nat.blt i (0+if n<=Int.toNat (if Int.ofNat n>Int.ofNat n then Int.ofNat n else Int.ofNat n)then n else Int.toNat (if Int.ofNat n>Int.ofNat n then Int.ofNat n else Int.ofNat n))then ae a (i-0)else [AV.int .i64 0]) (ae (C 0))/\ax (Int.toNat (if Int.ofNat n>Int.ofNat n then Int.ofNat n else Int.ofNat n)) n (ax (Int.toNat (if Int.ofNat n>Int.ofNat n then Int.ofNat n else Int.ofNat n)) n (zyI (Int.ofNat n) (zyN n (zyR n (ae B) (zyN n (zyR n (ae B) (aa ((List.all (List.range.loop n []) λi=>true)&&decide (0+n<=n)) (Q (AV.ab n 1 λi=>ae Z (0+i)))))))))))))):=U
theorem Rq(n)(B)(C)(Z)(Q):(kb [] [(4001,13,Pd n B C 0,Pe n Z)] 174 [.aw,.ab n 1 (ae B),.fn 61 [] []] Q)=(aa (decide (0<=if Int.ofNat n>0 then Int.ofNat n else 0)&&decide ((if Int.ofNat n>0 then Int.ofNat n else 0)<=if Int.ofNat n>0 then Int.ofNat n else 0)&&xF (8*if Int.ofNat n>0 then Int.ofNat n else 0) 281474976710656&&xF (if Int.ofNat n>0 then Int.ofNat n else 0) 9223372036854775807) (aa (decide ((0+if 0<=Int.toNat (if Int.ofNat n>0 then Int.ofNat n else 0)then 0 else Int.toNat (if Int.ofNat n>0 then Int.ofNat n else 0))<=Int.toNat (if Int.ofNat n>0 then Int.ofNat n else 0))) (eu PP II false (aD II 174 4001) 13 (Pd n B C 0) (Pe n Z)/\ax (Int.toNat (if Int.ofNat n>0 then Int.ofNat n else 0)) n (an (Int.toNat (if Int.ofNat n>0 then Int.ofNat n else 0)) (λi=>bif Nat.ble 0 i&&Nat.blt i (0+if 0<=Int.toNat (if Int.ofNat n>0 then Int.ofNat n else 0)then 0 else Int.toNat (if Int.ofNat n>0 then Int.ofNat n else 0))then []else [AV.int .i64 0]) (ae (C 0))/\ax (Int.toNat (if Int.ofNat n>0 then Int.ofNat n else 0)) n (ax (Int.toNat (if Int.ofNat n>0 then Int.ofNat n else 0)) n (zyI (Int.ofNat n) (zyN n (zyR n (ae B) (zyN n (zyR n (ae B) (aa ((List.all (List.range.loop n []) λi=>true)&&decide (0+n<=n)) (Q (AV.ab n 1 λi=>ae Z (0+i)))))))))))))):=U
end Go.Sx
end
