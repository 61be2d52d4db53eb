/- The proof of a statement of the seat, part 19. -/
import Derived.Test.YtoijalagmmgkbaaGreatDoorX18
import Derived.Test.YtoijalagmmgkbaaGreatDoorX14
set_option linter.all false
set_option linter.defProp false
set_option maxRecDepth 1000000
namespace Go.Sx
open Go
open Nat renaming gcd->B,blt->a_,blt_eq->g_,pos_of_ne_zero->h_,beq->j_,eq_zero_or_pos->o_,mod_lt->p_,strongRecOn->q_,ble->r_,le_of_lt->s_,gcd_comm->t_
open List renaming beq->z
open Go.IntKind renaming i64->b_
open Tr renaming ofList->c_
open AV renaming bool->d_,int->e_,str->i_,agg->l_,bK->m_,aw->u_
open Decidable renaming decide->f_
open Int renaming ofNat->k_,toNat->v_
noncomputable section
def l9(c)(r):Lib.hasPrefix (c::r) [45]=(45==c):=by
 show List.isPrefixOf [45] (c::r)=_
 grind
def IJ(r):eJ (45::r)=r:=by
 rfl
def pB(v):eJ (Lib.decDigits v)=Lib.decDigits v:=by
 obtain⟨ds,a,b,c,e⟩:=rD v
 rw[a]
 cases ds with
 |nil=>exact absurd A b
 |cons d ds=>
  unfold eJ Lib.trimPrefix
  have:=(tV (c d List.mem_cons_self)).1
  rw[List.map_cons,l9,show((45:UInt8)==asByte d)=false by grind]
  rfl
def uD{d}(h:d<10):qG.contains (asByte d)=true:=pA h (p:=λd=>qG.contains (asByte d)=true) A A A A A A A A A A
def GP{p}:∀(l:List UInt8),(∀x∈l,p x=true)->l.dropWhile p=[]
 |[],_=>rfl
 |x::l,h=>by rw[List.dropWhile_cons,if_pos Y];exact GP l ZD
def IK(v):yH (Lib.decDigits v)=[]:=by
 obtain⟨ds,b,f,c,g⟩:=rD v
 have a:∀x∈ds.map asByte,qG.contains x=true:=λx hx=>by
  obtain⟨d,e,rfl⟩:=List.mem_map.1 hx
  exact uD (c d e)
 unfold yH Lib.trimS Lib.trimRightS Lib.trimLeftS
 rw[b,GP (ds.map asByte).reverse λx hx=>a x (List.mem_reverse.1 hx)]
 rfl
def L4{v}(a:0<v):∃d ds,Lib.decDigits v=asByte d::ds/\0<d/\d<10:=by
 induction v using q_ with
 |_ v b=>
  by_cases h:v<10
  ·exact⟨v,[],by rw[Lib.decDigits_one h];rfl,a,h⟩
  ·obtain⟨d,ds,c,e,f⟩:=b (v/10) O O
   exact⟨d,ds++[UInt8.ofNat (48+v%10)],by rw[Lib.decDigits,dif_neg h,c];rfl,e,f⟩
def As{d}(h:d<10):(asByte d).toNat=48+d:=pA h (p:=λd=>(asByte d).toNat=48+d) A A A A A A A A A A
def beq_false{a b:List UInt8}(h:a≠b):z a b=false:=by
 rw[Bool.eq_false_iff];exactλe=>h (wu e)
def Cg(a:List UInt8):z a a=true:=beq_self_eq_true a
def L5{s v}(ht:eJ s=Lib.decDigits v)(hl:(Lib.decDigits v).length<=200)(h:0<v∨s=[48]):zM s=true:=by
 have a:=Lib.nDigits_pos v
 rw[<-Lib.decDigits_length]at a
 unfold zM
 rw[ht,beq_false Y,nZ (show¬ k_ (Lib.decDigits v).length>200 by grind),IK]
 rcases h with h|h
 ·show(match false with|true=>false|false=>match z s [48]with|true=>true|false=>!decide (GL (Lib.decDigits v)=48))=true
  cases e:z s [48]with
  |true=>rfl
  |false=>
   obtain⟨d,ds,b,f,c⟩:=L4 h
   show(!decide (GL (Lib.decDigits v)=48))=true
   rw[b]
   have:GL (asByte d::ds)=((48+d:Nat):Int):=by show k_ (asByte d).toNat=_;rw[As c];rfl
   grind
 ·rw[h];rfl
def GQ(b:Bool)(v:Nat):AV:=.agg [.bool b,jm v]
def L6(a b)(Q):(kb [Cd,EI] [] 106 [.str a,.str b] Q)=(ah (!zM a) (Q (m_ [l_ [d_ false,u_],l_ [d_ false,u_],d_ false])) (ah (!zM b) (Q (m_ [l_ [d_ false,u_],l_ [d_ false,u_],d_ false])) (aa (fM a) (aa (fM b) (Q (m_ [l_ [d_ (qd a),jm (Zt a)],l_ [d_ (qd b),jm (Zt b)],d_ true])))))):=U
def L7{a b}(ha:fM a=true)(d:fM b=true)(c:(zM a&&zM b)=true):af PP II 106 [.str a,.str b] (AH.blank 12) (.ret (.bK [GQ (qd a) (Zt a),GQ (qd b) (Zt b),.bool true]) (AH.blank 12)):=by
 simp only[bf]at c
 refine Al (ks:=[Cd,EI]) (T:=[]) ((L6 a b _).mpr ?_)
 rw[c.1,c.2]
 exact Ze ha (Ze d λσ=>⟨⟨rfl,mP σ _,trivial⟩,⟨rfl,mP σ _,trivial⟩,rfl,trivial⟩)
def jn(k:Nat)(f:Nat->List AV):Bool:=cO k f&&j_ k (ar (numOf k f))&&r_ k 80000
def oD{k f}(h:jn k f=true):AV.le (λl=>l) (.az k 1 f) (jm (numOf k f))/\ar (numOf k f)<=80000:=by
 unfold jn at h
 simp only[bf]at h
 have e:=dE h.1.2
 exact⟨tU h.1.1 e,by rw[<-e];exact jX h.2⟩
def EJ{v}(h:ar v<=80000):jn (ar v) (aG v)=true:=by
 unfold jn
 rw[cM,bZ,kV h,ni];rfl
def L8:aC PP II:=aC.pure 112
 (λX args b=>match args with
  |[.az k 1 f,.az m 1 g]=>X.ak (jn k f&&jn m g) (b (.int b_ (dU (numOf k f) (numOf m g))))
  |_=>X.fail)
 λX sem hX args b h=>by
  split at h
  ·obtain⟨a,c⟩:=hX.ak _ _ h
   simp only[bf]at a
   obtain⟨a1,a2⟩:=oD a.1
   obtain⟨d,e⟩:=oD a.2
   exact⟨_,c,λ_=>rfl,λ_=>rfl,(GD O).dq ⟨a1,d,trivial⟩⟩
  ·exact zR
def EK:aC PP II:=aC.pure 107
 (λX args b=>match args with
  |[.az k 1 f,.az m 1 g]=>X.ak (jn k f&&jn m g&&a_ 0 (numOf m g)) (b (.bK [jm (numOf k f/numOf m g),jm (numOf k f%numOf m g)]))
  |_=>X.fail)
 λX sem hX args b h=>by
  split at h
  ·obtain⟨a,d⟩:=hX.ak _ _ h
   simp only[bf]at a
   obtain⟨a1,a2⟩:=oD a.1.1
   obtain⟨e,i⟩:=oD a.1.2
   have c:=a.2
   rw[g_]at c
   exact⟨_,d,λ_=>rfl,λ_=>rfl,(GH c (dw _) a2 i).dq ⟨a1,e,trivial⟩⟩
  ·exact zR
def gI(v:Nat):Bool:=r_ (Lib.decDigits v).length 200
def L9:aC PP II:=aC.l8 111
 (λX args c=>match args with
  |[.agg [.bool b,.az k 1 f]]=>X.ak (jn k f&&gI (numOf k f)) (c (.bK [.str (xO b (numOf k f)),.int b_ 0]))
  |_=>X.fail)
 λX sem hX args c h=>by
  split at h
  ·obtain⟨a,d⟩:=hX.ak _ _ h
   simp only[bf]at a
   obtain⟨a1,a2⟩:=oD a.1
   exact⟨_,d,λ_=>rfl,λ_=>rfl,(GK O (jX a.2)).dq ⟨⟨rfl,a1,trivial⟩,trivial⟩⟩
  ·exact zR
def isNat(s:List UInt8):Bool:=zM s&&fM s && !qd s
def rF{s}(h:isNat s=true):zM s=true/\fM s=true/\qd s=false:=by
 unfold isNat at h
 grind
def Au:aC PP II:=aC.pure 106
 (λX args d=>match args with
  |[.str a,.str b]=>X.ak (isNat a&&isNat b) (d (.bK [GQ false (Zt a),GQ false (Zt b),.bool true]))
  |_=>X.fail)
 λX sem hX args d h=>by
  split at h
  ·rename_i a b
   obtain⟨c,e⟩:=hX.ak _ _ h
   simp only[bf]at c
   obtain⟨a1,a2,f⟩:=rF c.1
   obtain⟨g,i,j⟩:=rF c.2
   refine⟨_,e,λ_=>rfl,λ_=>rfl,?_⟩
   have:=L7 a2 i (by rw[a1,g];rfl)
   rwa[f,j]at this
  ·exact zR
def Ma(a b)(Q):(kb [Au,L8] [] 47 [.str a,.str b] Q)=(aa (isNat a&&isNat b) (aa (jn (ar (Zt a)) (aG (Zt a))&&jn (ar (Zt b)) (aG (Zt b))) (Q (e_ b_ (dU (numOf (ar (Zt a)) (aG (Zt a))) (numOf (ar (Zt b)) (aG (Zt b)))))))):=U
def IL(p:Nat×Nat):St:={t:=c_ [(9,jm p.1),(10,jm p.2)],nt:=42,H:={n:=20,t:=c_ [(6,.cells dz (.ex 20))]},df:=[]}
def IM(g:Nat):GE:=.one (.x 0 {t:=c_ [(9,jm g)],nt:=42,H:={n:=20,t:=c_ [(6,.cells dz (.ex 20))]},df:=[]})
def Mb(k l g)(Q):(kr [EK] [] 105 5003 20 IL (λ_=>IM g) (λp=>(p.2,p.1%p.2)) Q (k,l))=(ah (f_ (k_ (ar l)>0)) (aa (jn (ar k) (aG k)&&jn (ar l) (aG l)&&a_ 0 (numOf (ar l) (aG l))) (zyN (ar l) (zyR (ar l) (aG l) (ax (ar (numOf (ar k) (aG k)%numOf (ar l) (aG l))) (ar (k%l)) (an (ar (numOf (ar k) (aG k)%numOf (ar l) (aG l))) (aG (numOf (ar k) (aG k)%numOf (ar l) (aG l))) (aG (k%l))/\Q))))) (ax (ar k) (ar g) (an (ar k) (aG k) (aG g)/\True))):=U
def TV(a b)(g)(Q):(kp [Au,L9] [(5003,20,IL (Zt a,Zt b),IM g)] 105 [.str a,.str b] Q)=(aa (isNat a&&isNat b) (Zu PP II false (aD II 105 5003) 20 (IL (Zt a,Zt b)) (IM g)/\zyN (ar (Zt a)) (zyR (ar (Zt a)) (aG (Zt a)) (zyN (ar (Zt b)) (zyR (ar (Zt b)) (aG (Zt b)) (aa (jn (ar g) (aG g)&&gI (numOf (ar g) (aG g))) (Q (m_ [i_ (xO false (numOf (ar g) (aG g))),e_ b_ 0])))))))):=U
def TW(a b)(Q){c}(e:c=(numOf (ar (Zt a)) (aG (Zt a))/numOf (ar (Zt b)) (aG (Zt b)))){d}(f:d=(numOf (ar (Zt a)) (aG (Zt a))%numOf (ar (Zt b)) (aG (Zt b)))):(kp [Au,EK,L9] [] 46 [.str a,.str b] Q)=(aa (isNat a&&isNat b) (ah (f_ (k_ (ar (Zt b))=0)) (Q (m_ [i_ [],i_ [],e_ b_ 30])) (aa (jn (ar (Zt a)) (aG (Zt a))&&jn (ar (Zt b)) (aG (Zt b))&&a_ 0 (numOf (ar (Zt b)) (aG (Zt b)))) (aa (jn (ar c) (aG c)&&gI (numOf (ar c) (aG c))) (aa (jn (ar d) (aG d)&&gI (numOf (ar d) (aG d))) (Q (m_ [i_ (xO false (numOf (ar c) (aG c))),i_ (xO false (numOf (ar d) (aG d))),e_ b_ 0]))))))):=by subst_vars;kernel_rfl
def bu(v:Nat):List UInt8:=Lib.decDigits v
def Av{a b}(h:a<=b):(Lib.decDigits a).length<=(Lib.decDigits b).length:=by
 rw[Lib.decDigits_length,Lib.decDigits_length]
 induction a using q_ generalizing b with
 |_ a c=>
  by_cases h1:a<10
  ·rw[Lib.nDigits_small h1];exact Lib.nDigits_pos b
  ·rw[Lib.nDigits_big h1,Lib.nDigits_big (O:¬ b<10)]
   have:=c (a/10) O (O:a/10<=b/10)
   omega
def dS{a b}(h:a<=b)(c:gI b=true):gI a=true :=
 kV (Nat.le_trans (Av h) (jX c))
def Mc{v}(h:gI v=true):ar v<=80000:=by
 have:=tW (jX h)
 omega
def jo{v}(h:gI v=true):jn (ar v) (aG v)=true:=EJ (Mc h)
def ly:Lib.decDigits 0=[48]:=by rw[Lib.decDigits_one O];rfl
def qH(v):xO false v=bu v:=by
 unfold xO bu
 cases h:j_ v 0 with
 |true=>rw[dE h,ly];rfl
 |false=>rfl
def cq(v):Zt (bu v)=v:=by
 unfold Zt bu
 rw[pB,IH]
def dc{v}(h:gI v=true):isNat (bu v)=true:=by
 have hl:(Lib.decDigits v).length<=200:=jX h
 unfold isNat
 have b:zM (bu v)=true:=L5 (v:=v) (pB v) hl (by
  rcases o_ v with a|a
  ·right;rw[a];exact ly
  ·exact .inl a)
 have c:fM (bu v)=true:=by
  unfold fM
  rw[cq]
  unfold bu
  rw[pB,Cg]
  exact h
 have d:qd (bu v)=false:=by
  unfold qd bu
  rw[pB]
  exact zA
 rw[b,c,d];rfl
def iC{s}(h:isNat s=true):s=bu (Zt s)/\gI (Zt s)=true:=by
 obtain⟨g,d,b⟩:=rF h
 obtain⟨e,f⟩:=rE d
 refine⟨?_,kV f⟩
 unfold bu
 rw[<-e]
 unfold eJ Lib.trimPrefix
 split
 ·rename_i a
  cases s with
  |nil=>cases a
  |cons c r=>
   rw[l9]at a
   have:(45:UInt8)=c:=by simpa using a
   subst this
   unfold qd at b
   rw[IJ]at b
   grind
 ·rfl
def Ch{a b}(ha:isNat a=true)(c:isNat b=true):af PP II 47 [.str a,.str b] (AH.blank 12) (.ret (.int b_ (dU (Zt a) (Zt b))) (AH.blank 12)):=by
 refine Al (ks:=[Au,L8]) (T:=[]) ((Ma a b _).mpr ?_)
 have d:=jo (iC ha).2
 have e:=jo (iC c).2
 rw[ha,c,d,e,bZ,bZ]
 exactλσ=>⟨rfl,rfl⟩
def Aw:aC PP II:=aC.pure 47
 (λX args d=>match args with
  |[.str a,.str b]=>X.ak (isNat a&&isNat b) (d (.int b_ (dU (Zt a) (Zt b))))
  |_=>X.fail)
 λX sem hX args d h=>by
  split at h
  ·obtain⟨c,e⟩:=hX.ak _ _ h
   simp only[bf]at c
   exact⟨_,e,λ_=>rfl,λ_=>rfl,Ch c.1 c.2⟩
  ·exact zR
def Md{k l}(f:gI k=true)(hl:gI l=true):Zu PP II false (aD II 105 5003) 20 (IL (k,l)) (IM (B k l)):=
 Zu.of (ι:=Nat×Nat) iw [EK] (bm PP II []) 1000 20 (λp=>gI p.1=true/\gI p.2=true/\B p.1 p.2=B k l) IL (λ_=>IM (B k l)) (λp=>p.2) (λp=>(p.2,p.1%p.2)) (k,l) A
  ⟨f,hl,rfl⟩ λp g=>by
  obtain⟨x,y⟩:=p
  obtain⟨d,b,c⟩:=g
  change gI x=true at d
  change gI y=true at b
  change B x y=B k l at c
  refine(Mb x y (B k l) _).mpr ?_
  rw[jo d,jo b,bZ,bZ]
  with_reducible refine Zh (λh=>Ze ?_ (YG A ⟨dm _ _,YG A ⟨dm _ _,?_,?_,rfl⟩⟩)) (λh=>?_)
  ·have h:=pT h
   rw[Bool.and_self,Bool.true_and,g_]
   refine h_ λe=>?_
   rw[e,eY]at h
   grind
  ·have h:=pT h
   have a:0<y:=h_ λe=>by
    rw[e,eY]at h
    grind
   exact⟨b,dS (s_ (p_ x a)) b,by rw[<-c];show B y (x%y)=_;rw[t_ x y,Nat.gcd_rec y x,t_]⟩
  ·have h:=pT h
   have a:0<y:=h_ λe=>by
    rw[e,eY]at h
    grind
   exact p_ x a
  ·have h:=of_decide_eq_false h
   have a:y=0:=by
    have h :¬ (ar y:Int)>0:=h
    have:=fY y
    rw[show ar y=0 by omega]at this
    simpa using this
   subst a
   have:x=B k l:=by rw[<-c,Nat.gcd_zero_right]
   rw[<-this]
   exact YG A ⟨dm _ _,trivial⟩
def Ci{k l}(a:gI k=true)(hl:gI l=true):gI (B k l)=true:=by
 rcases o_ l with h|h
 grind
 ·exact dS (Nat.gcd_le_right k h) hl
def TX{a b}(ha:isNat a=true)(c:isNat b=true):af PP II 105 [.str a,.str b] HP (.ret (.bK [.str (bu (B (Zt a) (Zt b))),.int b_ 0]) HP):=by
 refine kz (T:=[(5003,20,IL (Zt a,Zt b),IM (B (Zt a) (Zt b)))]) ((TV a b (B (Zt a) (Zt b)) _).mpr ?_)
 have d:=(iC ha).2
 have e:=(iC c).2
 have f:=Ci d e
 rw[bZ,jo f,f,qH,ha,c]
 exact⟨Md d e,YG A ⟨dm _ _,YG A ⟨dm _ _,λσ=>⟨rfl,⟨rfl,rfl⟩,trivial⟩⟩⟩⟩
def TY:aC PP II:=aC.l8 105
 (λX args d=>match args with
  |[.str a,.str b]=>X.ak (isNat a&&isNat b) (d (.bK [.str (bu (B (Zt a) (Zt b))),.int b_ 0]))
  |_=>X.fail)
 λX sem hX args d h=>by
  split at h
  ·obtain⟨c,e⟩:=hX.ak _ _ h
   simp only[bf]at c
   exact⟨_,e,λ_=>rfl,λ_=>rfl,TX c.1 c.2⟩
  ·exact zR
def TZ{a b}(ha:isNat a=true)(d:isNat b=true)(e:0<Zt b):af PP II 46 [.str a,.str b] HP (.ret (.bK [.str (bu (Zt a/Zt b)),.str (bu (Zt a%Zt b)),.int b_ 0]) HP):=by
 refine kz (T:=[]) ((TW a b _ A A).mpr ?_)
 have f:=(iC ha).2
 have g:=(iC d).2
 have i:=dS (Nat.div_le_self (Zt a) (Zt b)) f
 have j:=dS (s_ (p_ (Zt a) e)) g
 have c:a_ 0 (Zt b)=true:=by rw[g_];exact e
 rw[bZ (Zt a),bZ (Zt b),bZ (Zt a/Zt b),bZ (Zt a%Zt b),jo f,jo g,jo i,jo j,i,j,c,qH,qH,ha,d]
 refine Zh (λh=>?_) (λ_=>λσ=>⟨rfl,rfl,⟨rfl,rfl⟩,trivial⟩)
 have h:=pT h
 have h:ar (Zt b)=0:=Int.ofNat.inj h
 have:=fY (Zt b)
 grind
def Me:aC PP II:=aC.l8 46
 (λX args d=>match args with
  |[.str a,.str b]=>X.ak (isNat a&&isNat b&&a_ 0 (Zt b)) (d (.bK [.str (bu (Zt a/Zt b)),.str (bu (Zt a%Zt b)),.int b_ 0]))
  |_=>X.fail)
 λX sem hX args d h=>by
  split at h
  ·obtain⟨c,f⟩:=hX.ak _ _ h
   simp only[bf]at c
   have e:=c.2
   rw[g_]at e
   exact⟨_,f,λ_=>rfl,λ_=>rfl,TZ c.1.1 c.1.2 e⟩
  ·exact zR
def yL:aC PP II:=aC.pure 153
 (λX args a=>match args with
  |[.str s]=>X.ak (isNat s) (a (.bool true))
  |_=>X.fail)
 λX sem hX args a h=>by
  split at h
  ·rename_i s
   obtain⟨b,c⟩:=hX.ak _ _ h
   refine⟨_,c,λ_=>rfl,λ_=>rfl,?_⟩
   have:=wq s
   rwa[(rF b).1]at this
  ·exact zR
def T0:aC PP II:=aC.l8 164
 (λX args c=>match args with
  |[.int b_ n]=>X.ak (f_ (0<=n)&&aN b_ n) (c (.str (bu n.toNat)))
  |_=>X.fail)
 λX sem hX args c h=>by
  split at h
  ·rename_i n
   obtain⟨a,d⟩:=hX.ak _ _ h
   simp only[bf,bn]at a
   have b:=a.2
   rw[nK]at b
   refine⟨_,d,λ_=>rfl,λ_=>rfl,?_⟩
   have:=GI b.1 b.2
   rwa[show Lib.itoa n=bu n.toNat by
    have:=rC n.toNat
    rw[show k_ n.toNat=n from Int.toNat_of_nonneg a.1]at this
    exact this]at this
  ·exact zR
def wv:isNat [48]=true/\Zt [48]=0:=by
 have h:gI 0=true:=by unfold gI;rw[ly];rfl
 have a:=dc h
 have b:=cq 0
 have e:bu 0=[48]:=ly
 grind
def Mf:aC PP II:=aC.pure 47
 (λX args c=>match args with
  |[.str a,.str [48]]=>X.ak (isNat a&&a_ 0 (Zt a)) (c (.int b_ 1))
  |_=>X.fail)
 λX sem hX args c h=>by
  split at h
  ·rename_i a
   obtain⟨b,d⟩:=hX.ak _ _ h
   simp only[bf]at b
   have e:=b.2
   rw[g_]at e
   refine⟨_,d,λ_=>rfl,λ_=>rfl,?_⟩
   have:=Ch b.1 wv.1
   rwa[wv.2,show dU (Zt a) 0=1 by unfold dU;omega]at this
  ·exact zR
def T1(n d)(Q){a}(b:a=(bu (B (Zt (bu n.toNat)) (Zt (bu d.toNat))))):(kp [T0,yL,Mf,TY,Me] [] 133 [.int b_ n,.int b_ d] Q)=(aa (f_ (0<=n)&&aN b_ n) (aa (f_ (0<=d)&&aN b_ d) (aa (isNat (bu n.toNat)) (aa (isNat (bu d.toNat)) (ah (z (bu d.toNat) [48]) (Q (m_ [l_ [i_ [],i_ []],e_ b_ 40])) (aa (isNat (bu d.toNat)&&a_ 0 (Zt (bu d.toNat))) (aa (isNat (bu n.toNat)&&isNat (bu d.toNat)) (aa (isNat (bu n.toNat)&&isNat a&&a_ 0 (Zt a)) (aa (isNat (bu d.toNat)&&isNat a&&a_ 0 (Zt a)) (Q (m_ [l_ [i_ (bu (Zt (bu n.toNat)/Zt a)),i_ (bu (Zt (bu d.toNat)/Zt a))],e_ b_ 0]))))))))))):=by subst_vars;kernel_rfl
def IN(a b)(Q):(kp [yL,Mf,TY] [] 45 [.agg [.str a,.str b]] Q)=(aa (isNat a) (aa (isNat b) (aa (isNat b&&a_ (0:Nat) (Zt b)) (aa (isNat a&&isNat b) (Q (d_ (z (bu (B (Zt a) (Zt b))) [49]))))))):=U
def wx:∀(k u),u<10^(k+1)->Lib.nDigits u<=k+1
 |0,u,h=>by rw[Lib.nDigits_small (by simpa using h)];omega
 |k+1,u,h=>by
  by_cases h1:u<10
  ·rw[Lib.nDigits_small h1];omega
  ·rw[Lib.nDigits_big h1]
   have:=wx k (u/10) O
   omega
def jL{n}(h:n<9223372036854775808):gI n=true:=by
 refine kV ?_
 rw[Lib.decDigits_length]
 have:=wx 18 n O
 omega
def Ax{v c k}(a:bu k=[c]):z (bu v) [c]=j_ v k:=by
 rw[<-a]
 cases h:j_ v k with
 |true=>rw[dE h];exact Cg _
 |false=>
  refine beq_false λe=>?_
  have:=congrArg Zt e
  rw[cq,cq]at this
  simp_all
def GR:bu 1=[49]:=by unfold bu;rw[Lib.decDigits_one O];rfl
def kA(n d:Nat):AV:=.agg [.str (bu (n/B n d)),.str (bu (d/B n d))]
def T3{n d:Nat}(a:n<9223372036854775808)(b:d<9223372036854775808)(g:0<d):af PP II 133 [.int b_ n,.int b_ d] HP (.ret (.bK [kA n d,.int b_ 0]) HP):=by
 refine kz (T:=[]) ((T1 n d _ A).mpr ?_)
 have c:v_ (n:Int)=n:=rfl
 have e:v_ (d:Int)=d:=rfl
 have i:0<B n d:=Y
 have f:=Ci (jL a) (jL b)
 rw[c,e,cq,cq,cq,dc (jL a),dc (jL b),dc f,show a_ 0 d=true by simp_all,show a_ 0 (B n d)=true by simp_all]
 have j:z (bu d) [48]=false:=by
  rw[Ax (k:=0) ly]
  cases h:j_ d 0 with
  |false=>rfl
  |true=>simp_all
 refine Ze (dZ (by rfl) (aq O O)) (Ze (dZ (by rfl) (aq O O)) (Zh (λh=>?_) λ_=>λσ=>⟨⟨rfl,rfl,trivial⟩,⟨rfl,rfl⟩,trivial⟩))
 simp_all
def YF:aC PP II:=aC.l8 133
 (λX args a=>match args with
  |[.int b_ n,.int b_ d]=>X.ak (f_ (0<=n)&&f_ (n<9223372036854775808)&&f_ (0<d)&&f_ (d<9223372036854775808)) (a (.bK [kA n.toNat d.toNat,.int b_ 0]))
  |_=>X.fail)
 λX sem hX args a h=>by
  split at h
  ·rename_i n d
   obtain⟨b,c⟩:=hX.ak _ _ h
   simp only[bf,bn]at b
   refine⟨_,c,λ_=>rfl,λ_=>rfl,?_⟩
   have:=T3 (n:=n.toNat) (d:=d.toNat) O O O
   grind
  ·exact zR
def bJ(a b:List UInt8):Bool:=isNat a&&isNat b&&a_ 0 (Zt b)&&j_ (B (Zt a) (Zt b)) 1
def Cj{a b}(h:bJ a b=true):af PP II 45 [.agg [.str a,.str b]] HP (.ret (.bool true) HP):=by
 unfold bJ at h
 simp only[bf]at h
 obtain⟨⟨⟨c,d⟩,f⟩,g⟩:=h
 refine kz (T:=[]) ((IN a b _).mpr ?_)
 rw[c,d,f]
 have e:z (bu (B (Zt a) (Zt b))) [49]=true:=by rw[Ax GR,g]
 refineλσ=>?_
 assumption
def yM:aC PP II:=aC.l8 45
 (λX args c=>match args with
  |[.agg [.str a,.str b]]=>X.ak (bJ a b) (c (.bool true))
  |_=>X.fail)
 λX sem hX args c h=>by
  split at h
  ·obtain⟨d,e⟩:=hX.ak _ _ h
   exact⟨_,e,λ_=>rfl,λ_=>rfl,Cj d⟩
  ·exact zR
def EL{ι:Type}(n0 l:Nat)(J:ι->Prop)(S:ι->St)(E:ι->aQ)(a:ι->Nat)(i:ι):aQ->Prop
 | .g b s=>b=l/\∃j,J j/\a j<a i/\St.Le n0 s (S j)/\E j=E i
 |e=>aQ.Le n0 e (E i)
def Ay{P:Program}{I:ba}{ι:Type}{n0 l:Nat}{J:ι->Prop}{S:ι->St}{E:ι->aQ}{K:ι->Nat}{r c:Code}{ir:Bool}(u:I.G<=n0)(L:findLabel c l=Option.some r)
  (k:∀i,J i->∃e,ew P I ir (.code r) (S i) e/\EL n0 l J S E K i e):
  ∀m i,J i->K i<m->∀ro n f ρ a w,(ir=false->ro=Option.none)->f.G=I.G->(∀l,f.E l->l<n0)->cA f ρ (S i) a w->fG (WF ro) n P (.inScope r c) ((E i).kx n0 f ρ) a w:=by
 intro m
 induction m with
 |zero=>omega
 |succ m M=>
  intro i N hi ro n f ρ a w o hG q Q
  obtain⟨e,R,t⟩:=k i N
  refine iR ?_
  have T:r.wpIn (WF ro) n P (e.post f ρ) a w:=R ro n f ρ a w o hG Q
  refine wpIn_mono T λx a1 U d=>?_
  have h:f.G<=n0:=by rw[hG];exact u
  cases e with
  |n s=>
   cases x with
   |normal=>exact aQ.jk t h q (aQ.ji d)
   |_=>exact d.elim
  |x i s=>
   cases x with
   |exit id=>exact aQ.jk t h q (aQ.ji d)
   |_=>exact d.elim
  |g b s=>
   cases x with
   |goto id=>
    obtain⟨rfl,V,hx,y⟩:=d
    obtain⟨rfl,j,C,Y,D,F⟩:=t
    obtain⟨H,W,X⟩:=y.view D h q
    have:=M j C O ro n f H a1 U o hG q X
    rw[F]at this
    simp only[mC,L]
    exact this.mono λx a w d=>aQ.ja ((iU.of hx).trans W) d
   |_=>exact d.elim
  |r s=>
   cases x with
   |ret=>exact aQ.jk t h q (aQ.ji d)
   |_=>exact d.elim
  |p v s=>simp only[EL,aQ.Le]at t
def Ck{P I ι s l J S E}(j){r c ir}{i:ι}(b:I.G<=s.H.n)(o:findLabel c l=Option.some r)(p:J i)(start:St.Le s.H.n s (S i))
  (d:∀i,J i->∃e,ew P I ir (.code r) (S i) e/\EL s.H.n l J S E j i e):ew P I ir (.inScope r c) s (E i):=by
 intro ro n k ρ a w f hG g
 have m:∀l,k.E l->l<s.H.n:=λl hl=>(g.heap.env l hl).1
 obtain⟨h,q,t⟩:=g.view start (by rw[hG];exact b) m
 have:=Ay b o d (j i+1) i p (Nat.lt_succ_self _) ro n k h a w f hG m t
 exact this.mono λx a w u=>aQ.nG g.heap A (aQ.ja q u)
def SH{ι:Type}(n0 l:Nat)(S:ι->St)(E:ι->GE)(a:ι->ι)(Q:Prop)(i:ι):KS Prop :=
 {n:=λs=>(E i).meets n0 (.n s)
  x:=λb s=>(E i).meets n0 (.x b s)
  g:=λb s=>aa (j_ b l) (mF n0 s (S (a i)) Q)
  r:=λs=>(E i).meets n0 (.r s)
  p:=λ_ _=>False}
def nJ.of{P I}(hI:I.Ok P)(ks:List (aC P I)){t}(o:eR P I id t)(fuel){ι r c ir}(n0 l:Nat)(J:ι->Prop)(S)(E)(j:ι->Nat)(d)(i0)
  (u:r_ I.G n0=true) (v:findLabel c l=Option.some r) (w:J i0)
  (m:∀i,J i->uA ks t fuel ir (.code r) (S i) (SH n0 l S E d (J (d i)/\j (d i)<j i/\(E (d i)).pick=(E i).pick) i)):nJ P I ir r c n0 (S i0) (E i0) where
 h s0 q y:=by
  subst q
  refine Ck (S:=S) (E:=λi=>(E i).pick) (J:=J) (l:=l) j ZD v w y λi hi=>?_
  obtain⟨e,f,C⟩:=nH hI ks o fuel ir _ _ _ (m i hi)
  refine⟨e,C,?_⟩
  cases e with
  |n s=>exact GE.fg (g:=E i) f
  |x b s=>exact GE.fg (g:=E i) f
  |g b s=>
   obtain⟨H,f⟩:=Zk f
   obtain⟨k1,k2,D,F⟩:=mF.ok (K:=J (d i)/\j (d i)<j i/\(E (d i)).pick=(E i).pick) f
   exact⟨ZD,d i,k2,D,k1,F⟩
  |r s=>exact GE.fg (g:=E i) f
  |p a s=>assumption
def jM:Code->Option Code
 | .seq a b=>match jM a with|some c=>Option.some c|none=>jM b
 | .cond _ a b=>match jM a with|some c=>Option.some c|none=>jM b
 | .block _ c=>jM c
 | .loop c=>jM c
 | .scope c=>Option.some c
 |_=>Option.none
def Az(I:ba)(f:FuncId):Code:=match I.body f with
 |some (c,_,_)=>match jM c with|some c=>c|none=> .skip
 |none=> .skip
def AA(I:ba)(f:FuncId)(l:Nat):Code:=match findLabel (Az I f) l with|some r=>r|none=> .skip
abbrev YU{ι:Type}(ks:List (aC PP II))(T:lI)(f l n0:Nat)(S:ι->St)(E:ι->GE)(a:ι->ι)(Q:Prop)(i:ι):Prop :=
 uA ks (mG PP II T) 1000 false (.code (AA II f l)) (S i) (SH n0 l S E a Q i)
structure FP where
 a:Nat
 b:Nat
 c:Nat
 d:Nat
 s:Int
def EM(p:FP):St:={t:=c_ [(2,.ptr 12 0 0 0),(3,.ptr 13 0 0 0),(5,.int b_ p.s)],nt:=74,H:={n:=27,t:=c_ [(6,.cells dz (.ex 20)),(12,.cells [.str (bu p.a),.str (bu p.b)] (.ty 30)),(13,.cells [.str (bu p.c),.str (bu p.d)] (.ty 30))]},df:=[]}
def EN(r:Int):GE:=.one (.r {t:=c_ [(4,.int b_ r)],nt:=74,H:={n:=27,t:=c_ [(6,.cells dz (.ex 20))]},df:=[]})
def IP(a b c d)(s r)(h)(Q){g}(i:g=(ah (z (bu (Zt (bu a)%Zt (bu b))) [48]) (aa (aN b_ (0-s)) (aH (0-s) r True)) (ah (z (bu (Zt (bu c)%Zt (bu d))) [48]) (aH s r True) (aa (aN b_ (0-s)) (aa (f_ (bu d=bu d)) (bI (bu d) (bu (h {a:=a,b:=b,c:=c,d:=d,s:=s}).c) (bI (bu (Zt (bu c)%Zt (bu d))) (bu (h {a:=a,b:=b,c:=c,d:=d,s:=s}).d) (bI (bu b) (bu (h {a:=a,b:=b,c:=c,d:=d,s:=s}).a) (bI (bu (Zt (bu a)%Zt (bu b))) (bu (h {a:=a,b:=b,c:=c,d:=d,s:=s}).b) (aH (0-s) (h {a:=a,b:=b,c:=c,d:=d,s:=s}).s Q)))))))))){e}(j:e=(bu (Zt (bu a)/Zt (bu b)))){f}(k:f=(bu (Zt (bu c)/Zt (bu d)))):(YU [Me,Aw] [] 17 0 27 EM (λ_=>EN r) h Q ⟨a,b,c,d,s⟩)=(aa (isNat (bu a)&&isNat (bu b)&&a_ 0 (Zt (bu b))) (aa (isNat (bu c)&&isNat (bu d)&&a_ 0 (Zt (bu d))) (aa (isNat e&&isNat f) (ah (!decide (dU (Zt e) (Zt f)=0)) (aa (aN b_ (s*dU (Zt e) (Zt f))) (aH (s*dU (Zt e) (Zt f)) r True)) (ah (z (bu (Zt (bu a)%Zt (bu b))) [48]) (ah (z (bu (Zt (bu c)%Zt (bu d))) [48]) (aH 0 r True) g) g))))):=by subst_vars;kernel_rfl
def Qa(a b c d)(r)(p)(Q){g}(h:g=(ah (z (bu (Zt (bu a)%Zt (bu b))) [48]) (aa (aN b_ (-1:Int)) (Q (e_ b_ (-1:Int)))) (ah (z (bu (Zt (bu c)%Zt (bu d))) [48]) (Q (e_ b_ 1)) (aa (aN b_ (-1:Int)) (aa (f_ (bu d=bu d)) (nJ PP II false (AA II 17 0) (Az II 17) 27 (EM p) (EN r)/\bI (bu d) (bu p.c) (bI (bu (Zt (bu c)%Zt (bu d))) (bu p.d) (bI (bu b) (bu p.a) (bI (bu (Zt (bu a)%Zt (bu b))) (bu p.b) (aH (-1:Int) p.s (Q (e_ b_ r)))))))))))){e}(i:e=(bu (Zt (bu a)/Zt (bu b)))){f}(j:f=(bu (Zt (bu c)/Zt (bu d)))):(kp [yM,Me,Aw] [(500000,27,EM p,EN r)] 17 [.agg [.str (bu a),.str (bu b)],.agg [.str (bu c),.str (bu d)]] Q)=(aa (bJ (bu a) (bu b)) (aa (bJ (bu c) (bu d)) (aa (isNat (bu a)&&isNat (bu b)&&a_ 0 (Zt (bu b))) (aa (isNat (bu c)&&isNat (bu d)&&a_ 0 (Zt (bu d))) (aa (isNat e&&isNat f) (ah (!decide (dU (Zt e) (Zt f)=0)) (aa (aN b_ (1*dU (Zt e) (Zt f))) (Q (e_ b_ (1*dU (Zt e) (Zt f))))) (ah (z (bu (Zt (bu a)%Zt (bu b))) [48]) (ah (z (bu (Zt (bu c)%Zt (bu d))) [48]) (Q (e_ b_ 0)) g) g))))))):=by subst_vars;kernel_rfl
end
end Go.Sx
