/- Lemmas, part 16. -/
import Derived.Test.YtoijalagmmgkbaaGreatDoorX15
set_option linter.all false
set_option linter.defProp false
set_option maxRecDepth 1000000
namespace Go.Sx
open Go
open Go.IntKind renaming i64->M
open Nat renaming gcd->z,blt->b_,blt_eq->d_,pos_of_ne_zero->e_,beq->j_,eq_zero_or_pos->l_,mod_lt->m_,le_of_lt->r_,gcd_comm->s_
open Decidable renaming decide->a_
open AV renaming int->c_,str->q_,ab->u_
open Int renaming ofNat->f_,toNat->n_
open List renaming beq->g_,take->h_,drop->i_
noncomputable section
def bu(v:Nat):List UInt8:=Lib.decDigits v
def Av{a b}(h:a<=b):(Lib.decDigits a).length<=(Lib.decDigits b).length:=by
 rw[Lib.decDigits_length,Lib.decDigits_length]
 induction a using Nat.strongRecOn generalizing b with
 |_ a c=>
  by_cases h1:a<10
  ·rw[Lib.nDigits_small h1];exact Lib.nDigits_pos b
  ·rw[Lib.nDigits_big h1,Lib.nDigits_big (O:¬ b<10)]
   have:=c (a/10) O (O:a/10<=b/10)
   omega
def dS{a b}(h:a<=b)(c:gI b=true):gI a=true :=
 kV (Nat.le_trans (Av h) (jX c))
def Mc{v}(h:gI v=true):ar v<=80000:=by
 have:=tW (jX h)
 omega
def jo{v}(h:gI v=true):jn (ar v) (aG v)=true:=EJ (Mc h)
def ly:Lib.decDigits 0=[48]:=by rw[Lib.decDigits_one O];rfl
def qH(v):xO false v=bu v:=by
 unfold xO bu
 cases h:j_ v 0 with
 |true=>rw[dE h,ly];rfl
 |false=>rfl
def cq(v):ao (bu v)=v:=by
 unfold ao bu
 rw[pB,IH]
def dc{v}(h:gI v=true):isNat (bu v)=true:=by
 have hl:(Lib.decDigits v).length<=200:=jX h
 unfold isNat
 have b:sr (bu v)=true:=L5 (v:=v) (pB v) hl (by
  rcases l_ v with a|a
  ·right;rw[a];exact ly
  ·exact .inl a)
 have c:fM (bu v)=true:=by
  unfold fM
  rw[cq]
  unfold bu
  rw[pB,Cg]
  exact h
 have d:qd (bu v)=false:=by
  unfold qd bu
  rw[pB]
  exact zA
 rw[b,c,d];rfl
def iC{s}(h:isNat s=true):s=bu (ao s)/\gI (ao s)=true:=by
 obtain⟨f,d,b⟩:=rF h
 obtain⟨e1,e⟩:=rE d
 refine⟨?_,kV e⟩
 unfold bu
 rw[<-e1]
 unfold eJ Lib.trimPrefix
 split
 ·rename_i a
  cases s with
  |nil=>cases a
  |cons c r=>
   rw[l9]at a
   have:(45:UInt8)=c:=by simpa using a
   subst this
   unfold qd at b
   rw[IJ]at b
   grind
 ·rfl
def Ch{a b}(ha:isNat a=true)(c:isNat b=true):af PP II 47 [.str a,.str b] (AH.blank 12) (.ret (.int M (DA (ao a) (ao b))) (AH.blank 12)):=by
 refine Al (ks:=[Au,L8]) (T:=[]) ((Ma a b _).mpr ?_)
 have d:=jo (iC ha).2
 have e:=jo (iC c).2
 rw[ha,c,d,e,bZ,bZ]
 exactλσ=>⟨rfl,rfl⟩
def Aw:aC PP II:=aC.pure 47
 (λX args d=>match args with
  |[.str a,.str b]=>X.bq (isNat a&&isNat b) (d (.int M (DA (ao a) (ao b))))
  |_=>X.fail)
 λX sem hX args d h=>by
  split at h
  ·obtain⟨c,e⟩:=hX.bq _ _ h
   simp only[bf]at c
   exact⟨_,e,λ_=>rfl,λ_=>rfl,Ch c.1 c.2⟩
  ·exact zR
def Md{k l}(f:gI k=true)(hl:gI l=true):eu PP II false (aD II 105 5003) 20 (IL (k,l)) (IM (z k l)):=
 eu.of (ι:=Nat×Nat) Hs [EK] (bm PP II []) 1000 20 (λp=>gI p.1=true/\gI p.2=true/\z p.1 p.2=z k l) IL (λ_=>IM (z k l)) (λp=>p.2) (λp=>(p.2,p.1%p.2)) (k,l) A
  ⟨f,hl,rfl⟩ λp g=>by
  obtain⟨x,y⟩:=p
  obtain⟨d,b,c⟩:=g
  change gI x=true at d
  change gI y=true at b
  change z x y=z k l at c
  refine(Mb x y (z k l) _).mpr ?_
  rw[jo d,jo b,bZ,bZ]
  with_reducible refine Zh (λh=>Ze ?_ (YG A ⟨dm _ _,YG A ⟨dm _ _,?_,?_,rfl⟩⟩)) (λh=>?_)
  ·have h:=pT h
   rw[Bool.and_self,Bool.true_and,d_]
   refine e_ λe=>?_
   rw[e,DC]at h
   grind
  ·have h:=pT h
   have a:0<y:=e_ λe=>by
    rw[e,DC]at h
    grind
   exact⟨b,dS (r_ (m_ x a)) b,by rw[<-c];show z y (x%y)=_;rw[s_ x y,Nat.gcd_rec y x,s_]⟩
  ·have h:=pT h
   have a:0<y:=e_ λe=>by
    rw[e,DC]at h
    grind
   exact m_ x a
  ·have h:=of_decide_eq_false h
   have a:y=0:=by
    have h :¬ (ar y:Int)>0:=h
    have:=fY y
    rw[show ar y=0 by omega]at this
    simpa using this
   subst a
   have:x=z k l:=by rw[<-c,Nat.gcd_zero_right]
   rw[<-this]
   exact YG A ⟨dm _ _,trivial⟩
def Ci{k l}(a:gI k=true)(hl:gI l=true):gI (z k l)=true:=by
 rcases l_ l with h|h
 grind
 ·exact dS (Nat.gcd_le_right k h) hl
def TX{a b}(ha:isNat a=true)(c:isNat b=true):af PP II 105 [.str a,.str b] HP (.ret (.qP [.str (bu (z (ao a) (ao b))),.int M 0]) HP):=by
 refine kz (T:=[(5003,20,IL (ao a,ao b),IM (z (ao a) (ao b)))]) ((TV a b (z (ao a) (ao b)) _).mpr ?_)
 have d:=(iC ha).2
 have e:=(iC c).2
 have f:=Ci d e
 rw[bZ,jo f,f,qH,ha,c]
 exact⟨Md d e,YG A ⟨dm _ _,YG A ⟨dm _ _,λσ=>⟨rfl,⟨rfl,rfl⟩,trivial⟩⟩⟩⟩
def TY:aC PP II:=aC.l8 105
 (λX args d=>match args with
  |[.str a,.str b]=>X.bq (isNat a&&isNat b) (d (.qP [.str (bu (z (ao a) (ao b))),.int M 0]))
  |_=>X.fail)
 λX sem hX args d h=>by
  split at h
  ·obtain⟨c,e⟩:=hX.bq _ _ h
   simp only[bf]at c
   exact⟨_,e,λ_=>rfl,λ_=>rfl,TX c.1 c.2⟩
  ·exact zR
def TZ{a b}(ha:isNat a=true)(d:isNat b=true)(e:0<ao b):af PP II 46 [.str a,.str b] HP (.ret (.qP [.str (bu (ao a/ao b)),.str (bu (ao a%ao b)),.int M 0]) HP):=by
 refine kz (T:=[]) ((TW a b _ A A).mpr ?_)
 have f:=(iC ha).2
 have g:=(iC d).2
 have hq:=dS (Nat.div_le_self (ao a) (ao b)) f
 have i:=dS (r_ (m_ (ao a) e)) g
 have c:b_ 0 (ao b)=true:=by rw[d_];exact e
 rw[bZ (ao a),bZ (ao b),bZ (ao a/ao b),bZ (ao a%ao b),jo f,jo g,jo hq,jo i,hq,i,c,qH,qH,ha,d]
 refine Zh (λh=>?_) (λ_=>λσ=>⟨rfl,rfl,⟨rfl,rfl⟩,trivial⟩)
 have h:=pT h
 have h:ar (ao b)=0:=Int.ofNat.inj h
 have:=fY (ao b)
 grind
def Me:aC PP II:=aC.l8 46
 (λX args d=>match args with
  |[.str a,.str b]=>X.bq (isNat a&&isNat b&&b_ 0 (ao b)) (d (.qP [.str (bu (ao a/ao b)),.str (bu (ao a%ao b)),.int M 0]))
  |_=>X.fail)
 λX sem hX args d h=>by
  split at h
  ·obtain⟨c,f⟩:=hX.bq _ _ h
   simp only[bf]at c
   have e:=c.2
   rw[d_]at e
   exact⟨_,f,λ_=>rfl,λ_=>rfl,TZ c.1.1 c.1.2 e⟩
  ·exact zR
def yL:aC PP II:=aC.pure 153
 (λX args a=>match args with
  |[.str s]=>X.bq (isNat s) (a (.bool true))
  |_=>X.fail)
 λX sem hX args a h=>by
  split at h
  ·rename_i s
   obtain⟨b,c⟩:=hX.bq _ _ h
   refine⟨_,c,λ_=>rfl,λ_=>rfl,?_⟩
   have:=wq s
   rwa[(rF b).1]at this
  ·exact zR
def T0:aC PP II:=aC.l8 164
 (λX args c=>match args with
  |[.int M n]=>X.bq (a_ (0<=n)&&aN M n) (c (.str (bu n.toNat)))
  |_=>X.fail)
 λX sem hX args c h=>by
  split at h
  ·rename_i n
   obtain⟨a,d⟩:=hX.bq _ _ h
   simp only[bf,bn]at a
   have b:=a.2
   rw[nK]at b
   refine⟨_,d,λ_=>rfl,λ_=>rfl,?_⟩
   have:=GI b.1 b.2
   rwa[show Lib.itoa n=bu n.toNat by
    have:=rC n.toNat
    rw[show f_ n.toNat=n from Int.toNat_of_nonneg a.1]at this
    exact this]at this
  ·exact zR
def wv:isNat [48]=true/\ao [48]=0:=by
 have h:gI 0=true:=by unfold gI;rw[ly];rfl
 have a:=dc h
 have b:=cq 0
 have e:bu 0=[48]:=ly
 grind
def Mf:aC PP II:=aC.pure 47
 (λX args c=>match args with
  |[.str a,.str [48]]=>X.bq (isNat a&&b_ 0 (ao a)) (c (.int M 1))
  |_=>X.fail)
 λX sem hX args c h=>by
  split at h
  ·rename_i a
   obtain⟨b,d⟩:=hX.bq _ _ h
   simp only[bf]at b
   have e:=b.2
   rw[d_]at e
   refine⟨_,d,λ_=>rfl,λ_=>rfl,?_⟩
   have:=Ch b.1 wv.1
   rwa[wv.2,show DA (ao a) 0=1 by unfold DA;omega]at this
  ·exact zR
def T1(n d)(Q){a}(b:a=(bu (z (ao (bu n.toNat)) (ao (bu d.toNat))))):(kp [T0,yL,Mf,TY,Me] [] 133 [.int M n,.int M d] Q)=(aa (a_ (0<=n)&&aN M n) (aa (a_ (0<=d)&&aN M d) (aa (isNat (bu n.toNat)) (aa (isNat (bu d.toNat)) (ah (g_ (bu d.toNat) [48]) (Q (AV.qP [AV.agg [q_ [],q_ []],c_ M 40])) (aa (isNat (bu d.toNat)&&b_ 0 (ao (bu d.toNat))) (aa (isNat (bu n.toNat)&&isNat (bu d.toNat)) (aa (isNat (bu n.toNat)&&isNat a&&b_ 0 (ao a)) (aa (isNat (bu d.toNat)&&isNat a&&b_ 0 (ao a)) (Q (AV.qP [AV.agg [q_ (bu (ao (bu n.toNat)/ao a)),q_ (bu (ao (bu d.toNat)/ao a))],c_ M 0]))))))))))):=by subst_vars;kernel_rfl
def IN(a b)(Q):(kp [yL,Mf,TY] [] 45 [.agg [.str a,.str b]] Q)=(aa (isNat a) (aa (isNat b) (aa (isNat b&&b_ (0:Nat) (ao b)) (aa (isNat a&&isNat b) (Q (AV.bool (g_ (bu (z (ao a) (ao b))) [49]))))))):=U
def wx:∀(k u),u<10^(k+1)->Lib.nDigits u<=k+1
 |0,u,h=>by rw[Lib.nDigits_small (by simpa using h)];omega
 |k+1,u,h=>by
  by_cases h1:u<10
  ·rw[Lib.nDigits_small h1];omega
  ·rw[Lib.nDigits_big h1]
   have:=wx k (u/10) O
   omega
def jL{n}(h:n<9223372036854775808):gI n=true:=by
 refine kV ?_
 rw[Lib.decDigits_length]
 have:=wx 18 n O
 omega
def Ax{v c k}(a:bu k=[c]):g_ (bu v) [c]=j_ v k:=by
 rw[<-a]
 cases h:j_ v k with
 |true=>rw[dE h];exact Cg _
 |false=>
  refine beq_false λe=>?_
  have:=congrArg ao e
  rw[cq,cq]at this
  simp_all
def GR:bu 1=[49]:=by unfold bu;rw[Lib.decDigits_one O];rfl
def kA(n d:Nat):AV:=.agg [.str (bu (n/z n d)),.str (bu (d/z n d))]
def T3{n d:Nat}(hn:n<9223372036854775808)(a:d<9223372036854775808)(e:0<d):af PP II 133 [.int M n,.int M d] HP (.ret (.qP [kA n d,.int M 0]) HP):=by
 refine kz (T:=[]) ((T1 n d _ A).mpr ?_)
 have e1:n_ (n:Int)=n:=rfl
 have b:n_ (d:Int)=d:=rfl
 have f:0<z n d:=Y
 have c:=Ci (jL hn) (jL a)
 rw[e1,b,cq,cq,cq,dc (jL hn),dc (jL a),dc c,show b_ 0 d=true by simp_all,show b_ 0 (z n d)=true by simp_all]
 have g:g_ (bu d) [48]=false:=by
  rw[Ax (k:=0) ly]
  cases h:j_ d 0 with
  |false=>rfl
  |true=>simp_all
 refine Ze (dZ (by rfl) (aq O O)) (Ze (dZ (by rfl) (aq O O)) (Zh (λh=>?_) λ_=>λσ=>⟨⟨rfl,rfl,trivial⟩,⟨rfl,rfl⟩,trivial⟩))
 simp_all
def YF:aC PP II:=aC.l8 133
 (λX args a=>match args with
  |[.int M n,.int M d]=>X.bq (a_ (0<=n)&&a_ (n<9223372036854775808)&&a_ (0<d)&&a_ (d<9223372036854775808)) (a (.qP [kA n.toNat d.toNat,.int M 0]))
  |_=>X.fail)
 λX sem hX args a h=>by
  split at h
  ·rename_i n d
   obtain⟨b,c⟩:=hX.bq _ _ h
   simp only[bf,bn]at b
   refine⟨_,c,λ_=>rfl,λ_=>rfl,?_⟩
   have:=T3 (n:=n.toNat) (d:=d.toNat) O O O
   grind
  ·exact zR
def bJ(a b:List UInt8):Bool:=isNat a&&isNat b&&b_ 0 (ao b)&&j_ (z (ao a) (ao b)) 1
def Cj{a b}(h:bJ a b=true):af PP II 45 [.agg [.str a,.str b]] HP (.ret (.bool true) HP):=by
 unfold bJ at h
 simp only[bf]at h
 obtain⟨⟨⟨c,d⟩,f⟩,g⟩:=h
 refine kz (T:=[]) ((IN a b _).mpr ?_)
 rw[c,d,f]
 have e:g_ (bu (z (ao a) (ao b))) [49]=true:=by rw[Ax GR,g]
 refineλσ=>?_
 assumption
def yM:aC PP II:=aC.l8 45
 (λX args c=>match args with
  |[.agg [.str a,.str b]]=>X.bq (bJ a b) (c (.bool true))
  |_=>X.fail)
 λX sem hX args c h=>by
  split at h
  ·obtain⟨d,e⟩:=hX.bq _ _ h
   exact⟨_,e,λ_=>rfl,λ_=>rfl,Cj d⟩
  ·exact zR
def TO:Nat->List AV->Bool
 |0,[]=>true
 |w+1,.int M i::cs=>aN M i&&TO w cs
 |_,_=>false
def aI(w n:Nat)(f:Nat->List AV):Bool:=(List.range n).all λi=>TO w (f i)
def bV(cs:List AV)(k:Nat):Int:=match cs.getD k .any with| .int M i=>i|_=>0
abbrev gF:aC PP II:=adX 88 (.inr A)
def ma(a:Int):Int:=match a_ (1+av a 11>8)with|true=>8|false=>1+av a 11
def au(X:Nat->Nat->Int)(j:Nat):List AV:=[.int M (X j 0),.int M (X j 1),.int M (X j 2)]
def Vl(n:Nat)(X:Nat->Nat->Int):AV:=.ab n 3 (au X)
def cW(X:Nat->Nat->Int)(j:Nat)(k:Nat):Int:=match k with|0=>ma (X j 0)|1=>1+av (X j 1) 4|_=>av (X j 2) 40-1
def Vm(n:Nat)(X:Nat->Nat->Int)(C:Nat->Nat->Int)(i:Int)(m:Nat):St:={t:=Tr.ofList [(0,Vl n X),(3,.own 12 m 3),(4,.int M i)],nt:=45,H:={n:=13,t:=Tr.ofList [(12,.rows m 3 (au C) (.ty 79))]},df:=[]}
def WI(n:Nat)(X:Nat->Nat->Int)(C:Nat->Nat->Int)(i:Int)(m:Nat):GE:=.one (.x 0 (Vm n X C i m))
def EP(n)(X C)(i l o)(m e k)(Q):(kr (ι:=Int×Nat) [gF] [] 87 3008 12 (λp=>Vm n X C p.1 p.2) (λ_=>WI n X C o k) (λ_=>(l,e)) Q (i,m))=(let b:=(a_ (0<=i)&&a_ (i<f_ n));let f:=(ax m k (zyR m (au C) (ax m k (zyN n (zyR n (au X) (aH i o True))))));let c:=(av (X i.toNat 2) 40-1);let d:=(1+av (X i.toNat 1) 4);let g:=(a_ (m<=m)&&true&&true&&a_ ((m+1)*24<=140737488355328)&&true);let h:=(zyN n (zyR n (au X) (aH (i+1) l Q)));let j:=(a_ (X i.toNat 2=X i.toNat 2));(ah (a_ (i<f_ n)) (ah (a_ (i<6)) (aa b (aa (aN M (X i.toNat 0)&&true) (aa (aN M (1+av (X i.toNat 0) 11)) (ah (a_ (1+av (X i.toNat 0) 11>8)) (aa b (aa (aN M (X i.toNat 1)&&true) (aa (aN M d) (aa b (aa j (aa (aN M (X i.toNat 2)&&true) (aa (aN M c) (aa g (aa (aN M (i+1)) (ax (m+1) e (an (m+1) (λa=>bif b_ a m then au C a else h_ 3 (i_ (0+(a-m)*3) [c_ M 8,c_ M d,c_ M c])) (au C)/\ax (m+1) e h))))))))))) (aa b (aa (aN M (X i.toNat 1)&&true) (aa (aN M d) (aa b (aa j (aa (aN M (X i.toNat 2)&&true) (aa (aN M c) (aa g (aa (aN M (i+1)) (ax (m+1) e (an (m+1) (λa=>bif b_ a m then au C a else h_ 3 (i_ (0+(a-m)*3) [c_ M (1+av (X i.toNat 0) 11),c_ M d,c_ M c])) (au C)/\ax (m+1) e h))))))))))))))) f) f)):=U
def Mp(n)(X C)(b)(a)(Q):(kb [] [(3008,12,Vm n X C 0 0,WI n X C b a)] 87 [Vl n X] Q)=(eu PP II false (aD II 87 3008) 12 {t:=.n (.n (.n .e (some (AV.own 12 0 3)) .e) none .e) (some (u_ n 3 (au X))) (.n (.n .e (some (c_ M 0)) .e) none .e),nt:=45,H:={n:=13,t:=.n .e none (.n (.n .e none (.n .e (some (eT.rows 0 3 (au C) (Access.ty 79))) .e)) none .e)},df:=[]} (GE.one (aQ.x 0 {t:=.n (.n (.n .e (some (AV.own 12 a 3)) .e) none .e) (some (u_ n 3 (au X))) (.n (.n .e (some (c_ M b)) .e) none .e),nt:=45,H:={n:=13,t:=.n .e none (.n (.n .e none (.n .e (some (eT.rows a 3 (au C) (Access.ty 79))) .e)) none .e)},df:=[]}))/\zyN n (zyR n (au X) (aa ((List.all (List.range.loop a []) λi=>true)&&a_ (a<=a)) (Q (u_ a 3 (au C)))))):=U
def jq(X)(σ)(j):bt.le σ (au X j) (au X j):=⟨⟨rfl,rfl⟩,⟨rfl,rfl⟩,⟨rfl,rfl⟩,trivial⟩
def bC(n)(X):an n (au X) (au X):=Zj λσ j=>jq X σ j
def Mq{m g C}(h:∀j,j<m->g j=au C j):an m g (au C):=λj a σ=>by rw[h j a];exact jq C σ j
def WJ(X:Nat->Nat->Int)(j:Nat):Prop:=aN M (X j 0)=true/\aN M (X j 1)=true/\aN M (X j 2)=true
def IY{m k C r}(d:r.length=3)(c:r=au C m)(e:k=m+1):
  an k (λj=>bif b_ j m then au C j else h_ 3 (i_ (0+(j-m)*3) r)) (au C):=by
 refine Mq λj a=>?_
 by_cases h:j<m
 ·simp only[(d_ ..).mpr h,cond_true]
 ·have a:j=m:=by omega
  have b:b_ j m=false:=by
   cases b:b_ j m with
   |false=>rfl
   |true=>simp_all
  simp only[b,cond_false]
  rw[a,Nat.sub_self,<-c]
  grind
def EQ(n)(X)(hx:∀j,j<n->WJ X j):eu PP II false (aD II 87 3008) 12 (Vm n X (cW X) 0 0) (WI n X (cW X) (min n 6:Nat) (min n 6)):=
 eu.of (ι:=Int×Nat) Hs [gF] (bm PP II []) 1000 12 (λp=>p.1=(p.2:Int)/\p.2<=min n 6) (λp=>Vm n X (cW X) p.1 p.2) (λ_=>WI n X (cW X) (min n 6:Nat) (min n 6)) (λp=>min n 6-p.2) (λp=>(p.1+1,p.2+1)) (0,0) A ⟨rfl,Nat.zero_le _⟩ λp f=>by
  obtain⟨i,m⟩:=p
  obtain⟨g,k⟩:=f
  simp only at g k
  have l:((min n 6:Nat):Int)=((min n 6:Nat):Int):=rfl
  have o:min n 6<=n/\min n 6<=6:=O
  have q:min n 6=n∨min n 6=6:=O
  generalize min n 6=N at*
  generalize w:(N:Int)=d at*
  refine(EP n X (cW X) i (i+1) d m (m+1) N _).mpr ?_
  have x:f_ n=(n:Int):=rfl
  have e1:n_ i=m:=O
  rw[e1]
  have done:i=d->ax m N (an m (au (cW X)) (au (cW X))/\ax m N (ax n n (an n (au X) (au X)/\aH i d True))):=λh=>YG O ⟨bC _ _,YG O (YG A ⟨bC _ _,Zf h trivial⟩)⟩
  refine Zg (λha=>Zg (λs=>?_) λs=>done O) λha=>done O
  obtain⟨t,x1,x2⟩:=hx m O
  have p0:=cj (c:=X m 0) (n:=11) O
  have y:=cj (c:=X m 1) (n:=4) O
  have B:=cj (c:=X m 2) (n:=40) O
  have b:(a_ (0<=i)&&a_ (i<f_ n))=true:=by simp only[bf,bn];omega
  have hi:aN M (i+1)=true:=aq O O
  have u:(a_ (m<=m)&&true&&true&&a_ ((m+1)*24<=140737488355328)&&true)=true:=by simp only[bf,Bool.and_true,bn];omega
  have fin:∀{r:List AV}{Z:Prop},r.length=3->r=au (cW X) m->Z->aa (aN M (i+1)) (ax (m+1) (m+1) (an (m+1) (λj=>bif b_ j m then au (cW X) j else h_ 3 (i_ (0+(j-m)*3) r)) (au (cW X))/\ax (m+1) (m+1) (ax n n (an n (au X) (au X)/\aH (i+1) (i+1) Z)))):=λhl v a=>
   cC _ _ hi (YG A ⟨IY hl v A,YG A (YG A ⟨bC _ _,Zf A a⟩)⟩)
  refine cC _ _ b (cC _ _ (by rw[t];rfl) (cC _ _ (aq O O) (Zg (λe=>?_) λe=>?_)))
  all_goals
   refine cC _ _ b (cC _ _ (by rw[x1];rfl) (cC _ _ (aq O O) (cC _ _ b (cC _ _ (bW A) (cC _ _ (by rw[x2];rfl) (cC _ _ (aq O O) (cC _ _ u (fin A ?_ ?_))))))))
  ·show _=[c_ M (ma (X m 0)),_,_]
   have:ma (X m 0)=8:=by unfold ma;rw[bW e]
   rw[this];rfl
  grind
  ·show _=[c_ M (ma (X m 0)),_,_]
   have:ma (X m 0)=1+av (X m 0) 11:=by unfold ma;rw[nZ e]
   rw[this];rfl
  grind
def Mr(n)(X)(hx:∀j,j<n->WJ X j):af PP II 87 [Vl n X] (AH.blank 12) (.ret (.ab (min n 6) 3 (au (cW X))) (AH.blank 12)):=by
 have a:=EQ n X hx
 generalize min n 6=N at*
 generalize (N:Int)=b at*
 refine bY (ks:=[]) (T:=[(3008,12,Vm n X (cW X) 0 0,WI n X (cW X) b N)]) (λσ=>⟨rfl,rfl,λi hi=>jq _ σ i⟩) ?_
 rw[Mp]
 exact⟨a,YG A ⟨bC _ _,cC _ _ zA A⟩⟩
def bG(f:Nat->List AV)(j k:Nat):Int:=bV (f j) k
def pC:∀(w)(cs),TO w cs=true->cs.length=w/\∀k,k<w->cs[k]? =Option.some (.int M (bV cs k))/\aN M (bV cs k)=true
 |0,[],_=>Y
 |w+1,.int M i::cs,h=>by
  simp only[TO,bf]at h
  obtain⟨a,b⟩:=pC w cs h.2
  refine⟨by simp[a],λk c=>?_⟩
  cases k with
  |zero=>exact⟨rfl,h.1⟩
  |succ k=>exact b k O
 |0,_::_,h=>zE
def nP{cs}(h:TO 3 cs=true):cs=[.int M (bV cs 0),.int M (bV cs 1),.int M (bV cs 2)]/\aN M (bV cs 0)=true/\aN M (bV cs 1)=true/\aN M (bV cs 2)=true:=by
 obtain⟨c,b⟩:=pC 3 cs h
 obtain⟨a0,d⟩:=b 0 O
 obtain⟨a1,e⟩:=b 1 O
 obtain⟨a2,f⟩:=b 2 O
 refine⟨?_,d,e,f⟩
 match cs,c with
 |[x,y,a],_=>
  grind
def c7{w n:Nat}{f:Nat->List AV}(h:aI w n f=true){j:Nat}(a:j<n):TO w (f j)=true:=List.all_eq_true.1 h j (List.mem_range.2 a)
def AD:aC PP II:=aC.pure 87
 (λX args a=>match args with
  |[.ab n 3 f]=>X.bq (aI 3 n f) (a (.ab (min n 6) 3 (au (cW (bG f)))))
  |_=>X.fail)
 λX sem hX args a h=>by
  split at h
  ·rename_i n f
   obtain⟨b,c⟩:=hX.bq _ _ h
   refine⟨_,c,λ_=>rfl,λ_=>rfl,(Mr n (bG f) λj d=>?_).dq ⟨⟨rfl,rfl,λi hi=>?_⟩,trivial⟩⟩
   ·exact(nP (c7 b d)).2
   ·rw[(nP (c7 b hi)).1];exact jq (bG f) _ i
  ·exact zR
end
end Go.Sx
