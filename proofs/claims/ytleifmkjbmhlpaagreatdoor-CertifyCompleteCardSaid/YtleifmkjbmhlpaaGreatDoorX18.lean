/- The proof of a statement of the seat, part 18. -/
import Derived.Test.YtleifmkjbmhlpaaGreatDoorX17
import Derived.Test.YtleifmkjbmhlpaaGreatDoorX13
set_option linter.all false
set_option linter.defProp false
set_option maxRecDepth 1000000
namespace Go.Sx
open Go
open Nat renaming gcd->M,blt->a_,blt_eq->g_,pos_of_ne_zero->h_,beq->j_,eq_zero_or_pos->o_,mod_lt->p_,strongRecOn->q_,ble->r_,le_of_lt->s_,gcd_comm->t_
open List renaming beq->z
open Go.IntKind renaming i64->b_
open Tr renaming ofList->c_
open AV renaming bool->d_,int->e_,str->i_,agg->m_,bM->n_,aD->u_
open Decidable renaming decide->f_
open AH renaming blank->k_
open Int renaming ofNat->l_,toNat->v_
noncomputable section
def oi(c)(r):Lib.hasPrefix (c::r) [45]=(45==c):=by
 show List.isPrefixOf [45] (c::r)=_
 grind
def M2(r):fq (45::r)=r:=by
 rfl
def sd(v):fq (Lib.decDigits v)=Lib.decDigits v:=by
 obtain⟨ds,a,b,h3,h4⟩:=ux v;rw[a];cases ds with
 |nil=>exact absurd A b
 |cons d ds=>unfold fq Lib.trimPrefix;have:=(wC (h3 d List.mem_cons_self)).1;rw[List.map_cons,oi,show((45:UInt8)==asByte d)=false by grind];rfl
def xc{d}(h:d<10):tv.contains (asByte d)=true:=sb h (p:=λd=>tv.contains (asByte d)=true) A A A A A A A A A A
def KO{p}:∀(l:List UInt8),(∀x∈l,p x=true)->l.dropWhile p=[]
 |[],_=>rfl
 |x::l,h=>by rw[List.dropWhile_cons,if_pos Y];exact KO l (by simp_all)
def M3(v):BP (Lib.decDigits v)=[]:=by
 obtain⟨ds,b,e,h3,h4⟩:=ux v;have a:∀x∈ds.map asByte,tv.contains x=true:=λx hx=>by obtain⟨d,c,rfl⟩:=List.mem_map.1 hx;exact xc (h3 d c)
 unfold BP Lib.trimS Lib.trimRightS Lib.trimLeftS;rw[b,KO (ds.map asByte).reverse λx hx=>a x (List.mem_reverse.1 hx)];rfl
def Ra{v}(a:0<v):∃d ds,Lib.decDigits v=asByte d::ds/\0<d/\d<10:=by
 induction v using q_ with
 |_ v b=>
  by_cases h:v<10
  ·exact⟨v,[],by rw[Lib.decDigits_one h];rfl,a,h⟩
  ·obtain⟨d,ds,c,e,h3⟩:=b (v/10) O O;exact⟨d,ds++[UInt8.ofNat (48+v%10)],by rw[Lib.decDigits,dif_neg h,c];rfl,e,h3⟩
def Dv{d}(h:d<10):(asByte d).toNat=48+d:=sb h (p:=λd=>(asByte d).toNat=48+d) A A A A A A A A A A
def beq_false{a b:List UInt8}(h:a≠b):z a b=false:=by
 rw[Bool.eq_false_iff];exactλe=>h (zc e)
def Ft(a:List UInt8):z a a=true:=beq_self_eq_true a
def Rb{s v}(ht:fq s=Lib.decDigits v)(hl:(Lib.decDigits v).length<=200)(h:0<v∨s=[48]):ij s=true:=by
 have a:=Lib.nDigits_pos v;rw[<-Lib.decDigits_length]at a;unfold ij;rw[ht,beq_false Y,nJ (show¬ l_ (Lib.decDigits v).length>200 by grind),M3];rcases h with h|h
 ·show(match false with|true=>false|false=>match z s [48]with|true=>true|false=>!decide (KL (Lib.decDigits v)=48))=true;cases c:z s [48]with
  |true=>rfl
  |false=>
   obtain⟨d,ds,b,e,h3⟩:=Ra h;show(!decide (KL (Lib.decDigits v)=48))=true;rw[b];have:KL (asByte d::ds)=((48+d:Nat):Int):=by show l_ (asByte d).toNat=_;rw[Dv h3];rfl
   grind
 ·rw[h];rfl
def BU(b:Bool)(v:Nat):AV:=.agg [.bool b,k8 v]
def Fu(a b)(Q):(kb [y9,IE] [] 186 [.str a,.str b] Q)=(ak (!ij a) (Q (n_ [m_ [d_ false,u_],m_ [d_ false,u_],d_ false])) (ak (!ij b) (Q (n_ [m_ [d_ false,u_],m_ [d_ false,u_],d_ false])) (B (eY a) (B (eY b) (Q (n_ [m_ [d_ (qo a),k8 (aw a)],m_ [d_ (qo b),k8 (aw b)],d_ true])))))):=U
def Fv{a b}(ha:eY a=true)(d:eY b=true)(c:(ij a&&ij b)=true):af PP II 186 [.str a,.str b] (k_ 12) (.ret (.bM [BU (qo a) (aw a),BU (qo b) (aw b),.bool true]) (k_ 12)):=by
 simp only[ba]at c;refine y5 (ks:=[y9,IE]) (T:=[]) ((Fu a b _).mpr ?_);rw[c.1,c.2];exact ZF ha (ZF d λσ=>⟨⟨rfl,oQ σ _,trivial⟩,⟨rfl,oQ σ _,trivial⟩,rfl,trivial⟩)
def Rc{a b}(d:(ij a&&ij b)=false):af PP II 186 [.str a,.str b] (k_ 12) (.ret (.bM [.agg [.bool false,.aD],.agg [.bool false,.aD],.bool false]) (k_ 12)):=by
 refine y5 (ks:=[y9,IE]) (T:=[]) ((Fu a b _).mpr ?_);have c:∀σ,AV.le σ (.bM [.agg [.bool false,.aD],.agg [.bool false,.aD],.bool false]) (.bM [.agg [.bool false,.aD],.agg [.bool false,.aD],.bool false]):=λσ=>⟨⟨rfl,trivial,trivial⟩,⟨rfl,trivial,trivial⟩,rfl,trivial⟩
 refine aaz (λ_=>c) λh=>aaz (λ_=>c) λe=>?_
 grind
def abI:ax PP II:=ax.pure 186
 (λX args d=>match args with
  |[.str a,.str b]=>X.cond (ij a&&ij b) (λ_=>X.ag (eY a&&eY b) (d (.bM [BU (qo a) (aw a),BU (qo b) (aw b),.bool true])))
    (λ_=>d (.bM [.agg [.bool false,.aD],.agg [.bool false,.aD],.bool false]))
  |_=>X.fail)
 λX sem hX args d h=>by
  split at h
  ·rename_i a b;have h:=hX.cond _ _ _ h;cases c:(ij a&&ij b)with
   |true=>rw[c,if_pos A]at h;obtain⟨e,f⟩:=hX.ag _ _ h;simp only[ba]at e;exact⟨_,f,λ_=>rfl,λ_=>rfl,Fv e.1 e.2 c⟩
   |false=>rw[c,if_neg zA]at h;exact⟨_,h,λ_=>rfl,λ_=>rfl,Rc c⟩
  ·exact zR
def kl(k:Nat)(f:Nat->List AV):Bool:=dy k f&&j_ k (au (numOf k f))&&r_ k 80000
def q6{k f}(h:kl k f=true):AV.le (λl=>l) (.ae k 1 f) (k8 (numOf k f))/\au (numOf k f)<=80000:=by
 unfold kl at h;simp only[ba]at h;have e:=dV h.1.2;exact⟨Fp h.1.1 e,by rw[<-e];exact fT h.2⟩
def IF{v}(h:au v<=80000):kl (au v) (aI v)=true:=by
 unfold kl;rw[cO,cb,il h,qy];rfl
def Re:ax PP II:=ax.pure 192
 (λX args b=>match args with
  |[.ae k 1 f,.ae m 1 g]=>X.ag (kl k f&&kl m g) (b (.int b_ (eT (numOf k f) (numOf m g))))
  |_=>X.fail)
 λX sem hX args b h=>by
  split at h
  ·obtain⟨a,c⟩:=hX.ag _ _ h;simp only[ba]at a;obtain⟨a1,a2⟩:=q6 a.1;obtain⟨d,e⟩:=q6 a.2;exact⟨_,c,λ_=>rfl,λ_=>rfl,(Kp O).cS ⟨a1,d,trivial⟩⟩
  ·exact zR
def IG:ax PP II:=ax.pure 187
 (λX args b=>match args with
  |[.ae k 1 f,.ae m 1 g]=>X.ag (kl k f&&kl m g&&a_ 0 (numOf m g)) (b (.bM [k8 (numOf k f/numOf m g),k8 (numOf k f%numOf m g)]))
  |_=>X.fail)
 λX sem hX args b h=>by
  split at h
  ·obtain⟨a,d⟩:=hX.ag _ _ h;simp only[ba]at a;obtain⟨a1,a2⟩:=q6 a.1.1;obtain⟨e,i⟩:=q6 a.1.2;have c:=a.2;rw[g_]at c;exact⟨_,d,λ_=>rfl,λ_=>rfl,(Vd c (dP _) a2 i).cS ⟨a1,e,trivial⟩⟩
  ·exact zR
def iC(v:Nat):Bool:=r_ (Lib.decDigits v).length 200
def Rf:ax PP II:=ax.oR 191
 (λX args c=>match args with
  |[.agg [.bool b,.ae k 1 f]]=>X.ag (kl k f&&iC (numOf k f)) (c (.bM [.str (Dt b (numOf k f)),.int b_ 0]))
  |_=>X.fail)
 λX sem hX args c h=>by
  split at h
  ·obtain⟨a,d⟩:=hX.ag _ _ h;simp only[ba]at a;obtain⟨a1,a2⟩:=q6 a.1;exact⟨_,d,λ_=>rfl,λ_=>rfl,(Vh O (fT a.2)).cS ⟨⟨rfl,a1,trivial⟩,trivial⟩⟩
  ·exact zR
def isNat(s:List UInt8):Bool:=ij s&&eY s && !qo s
def uz{s}(h:isNat s=true):ij s=true/\eY s=true/\qo s=false:=by
 unfold isNat at h
 grind
def Dw:ax PP II:=ax.pure 186
 (λX args d=>match args with
  |[.str a,.str b]=>X.ag (isNat a&&isNat b) (d (.bM [BU false (aw a),BU false (aw b),.bool true]))
  |_=>X.fail)
 λX sem hX args d h=>by
  split at h
  ·rename_i a b;obtain⟨c,e⟩:=hX.ag _ _ h;simp only[ba]at c;obtain⟨a1,a2,f⟩:=uz c.1;obtain⟨g,i,j⟩:=uz c.2;refine⟨_,e,λ_=>rfl,λ_=>rfl,?_⟩;have:=Fv a2 i (by rw[a1,g];rfl)
   rwa[f,j]at this
  ·exact zR
def Rg(a b)(Q):(kb [Dw,Re] [] 150 [.str a,.str b] Q)=(B (isNat a&&isNat b) (B (kl (au (aw a)) (aI (aw a))&&kl (au (aw b)) (aI (aw b))) (Q (e_ b_ (eT (numOf (au (aw a)) (aI (aw a))) (numOf (au (aw b)) (aI (aw b)))))))):=U
def M4(p:Nat×Nat):St:={t:=c_ [(9,k8 p.1),(10,k8 p.2)],nt:=42,H:={n:=20,t:=c_ [(6,.cells dS (.ex 20))]},df:=[]}
def M5(g:Nat):GE:=.one (.x 0 {t:=c_ [(9,k8 g)],nt:=42,H:={n:=20,t:=c_ [(6,.cells dS (.ex 20))]},df:=[]})
def Rh(k l g)(Q):(kr [IG] [] 161 5003 20 M4 (λ_=>M5 g) (λp=>(p.2,p.1%p.2)) Q (k,l))=(ak (f_ (l_ (au l)>0)) (B (kl (au k) (aI k)&&kl (au l) (aI l)&&a_ 0 (numOf (au l) (aI l))) (zyN (au l) (zyR (au l) (aI l) (bh (au (numOf (au k) (aI k)%numOf (au l) (aI l))) (au (k%l)) (an (au (numOf (au k) (aI k)%numOf (au l) (aI l))) (aI (numOf (au k) (aI k)%numOf (au l) (aI l))) (aI (k%l))/\Q))))) (bh (au k) (au g) (an (au k) (aI k) (aI g)/\True))):=U
def Yv(a b)(g)(Q):(kp [Dw,Rf] [(5003,20,M4 (aw a,aw b),M5 g)] 161 [.str a,.str b] Q)=(B (isNat a&&isNat b) (ay PP II false (az II 161 5003) 20 (M4 (aw a,aw b)) (M5 g)/\zyN (au (aw a)) (zyR (au (aw a)) (aI (aw a)) (zyN (au (aw b)) (zyR (au (aw b)) (aI (aw b)) (B (kl (au g) (aI g)&&iC (numOf (au g) (aI g))) (Q (n_ [i_ (Dt false (numOf (au g) (aI g))),e_ b_ 0])))))))):=U
def Yw(a b)(Q){c}(e:c=(numOf (au (aw a)) (aI (aw a))/numOf (au (aw b)) (aI (aw b)))){d}(f:d=(numOf (au (aw a)) (aI (aw a))%numOf (au (aw b)) (aI (aw b)))):(kp [Dw,IG,Rf] [] 149 [.str a,.str b] Q)=(B (isNat a&&isNat b) (ak (f_ (l_ (au (aw b))=0)) (Q (n_ [i_ [],i_ [],e_ b_ 30])) (B (kl (au (aw a)) (aI (aw a))&&kl (au (aw b)) (aI (aw b))&&a_ 0 (numOf (au (aw b)) (aI (aw b)))) (B (kl (au c) (aI c)&&iC (numOf (au c) (aI c))) (B (kl (au d) (aI d)&&iC (numOf (au d) (aI d))) (Q (n_ [i_ (Dt false (numOf (au c) (aI c))),i_ (Dt false (numOf (au d) (aI d))),e_ b_ 0]))))))):=by subst_vars;kernel_rfl
def ck(v:Nat):List UInt8:=Lib.decDigits v
def Dx{a b}(h:a<=b):(Lib.decDigits a).length<=(Lib.decDigits b).length:=by
 rw[Lib.decDigits_length,Lib.decDigits_length]
 induction a using q_ generalizing b with
 |_ a c=>
  by_cases h1:a<10
  ·rw[Lib.nDigits_small h1];exact Lib.nDigits_pos b
  ·rw[Lib.nDigits_big h1,Lib.nDigits_big (O:¬ b<10)];have:=c (a/10) O (O:a/10<=b/10);omega
def eE{a b}(h:a<=b)(c:iC b=true):iC a=true :=
 il (Nat.le_trans (Dx h) (fT c))
def Ri{v}(h:iC v=true):au v<=80000:=by
 have:=wD (fT h);omega
def km{v}(h:iC v=true):kl (au v) (aI v)=true:=IF (Ri h)
def mZ:Lib.decDigits 0=[48]:=by rw[Lib.decDigits_one O];rfl
def tw(v):Dt false v=ck v:=by
 unfold Dt ck;cases h:j_ v 0 with
 |true=>rw[dV h,mZ];rfl
 |false=>rfl
def cP(v):aw (ck v)=v:=by
 unfold aw ck;rw[sd,M1]
def dw{v}(h:iC v=true):isNat (ck v)=true:=by
 have hl:(Lib.decDigits v).length<=200:=fT h;unfold isNat;have b:ij (ck v)=true:=Rb (v:=v) (sd v) hl (by
  rcases o_ v with a|a
  ·right;rw[a];exact mZ
  ·exact .inl a)
 have c:eY (ck v)=true:=by unfold eY;rw[cP];unfold ck;rw[sd,Ft];exact h
 have h3:qo (ck v)=false:=by unfold qo ck;rw[sd];exact zA
 rw[b,c,h3];rfl
def jv{s}(h:isNat s=true):s=ck (aw s)/\iC (aw s)=true:=by
 obtain⟨f,b,h3⟩:=uz h;obtain⟨d,e⟩:=uy b;refine⟨?_,il e⟩;unfold ck;rw[<-d];unfold fq Lib.trimPrefix;split
 ·rename_i a;cases s with
  |nil=>cases a
  |cons c r=>
   rw[oi]at a;have:(45:UInt8)=c:=by simpa using a
   subst this;unfold qo at h3;rw[M2]at h3
   grind
 ·rfl
def Fw{a b}(ha:isNat a=true)(c:isNat b=true):af PP II 150 [.str a,.str b] (k_ 12) (.ret (.int b_ (eT (aw a) (aw b))) (k_ 12)):=by
 refine y5 (ks:=[Dw,Re]) (T:=[]) ((Rg a b _).mpr ?_);have d:=km (jv ha).2;have e:=km (jv c).2;rw[ha,c,d,e,cb,cb];exactλσ=>⟨rfl,rfl⟩
def IH:ax PP II:=ax.pure 150
 (λX args d=>match args with
  |[.str a,.str b]=>X.ag (isNat a&&isNat b) (d (.int b_ (eT (aw a) (aw b))))
  |_=>X.fail)
 λX sem hX args d h=>by
  split at h
  ·obtain⟨c,e⟩:=hX.ag _ _ h;simp only[ba]at c;exact⟨_,e,λ_=>rfl,λ_=>rfl,Fw c.1 c.2⟩
  ·exact zR
def Rj{k l}(d:iC k=true)(hl:iC l=true):ay PP II false (az II 161 5003) 20 (M4 (k,l)) (M5 (M k l)):=
 ay.of (ι:=Nat×Nat) fU [IG] (aX PP II []) 1000 20 (λp=>iC p.1=true/\iC p.2=true/\M p.1 p.2=M k l) M4 (λ_=>M5 (M k l)) (λp=>p.2) (λp=>(p.2,p.1%p.2)) (k,l) A
  ⟨d,hl,rfl⟩ λp f=>by
  obtain⟨x,y⟩:=p;obtain⟨c,b,h3⟩:=f;change iC x=true at c;change iC y=true at b;change M x y=M k l at h3;refine(Rh x y (M k l) _).mpr ?_;rw[km c,km b,cb,cb]
  with_reducible refine aaz (λh=>ZF ?_ (aan A ⟨dG _ _,aan A ⟨dG _ _,?_,?_,rfl⟩⟩)) (λh=>?_)
  ·have h:=py h;rw[Bool.and_self,Bool.true_and,g_];refine h_ λe=>?_
   rw[e,hZ]at h
   grind
  ·have h:=py h;have a:0<y:=h_ λe=>by
    rw[e,hZ]at h
    grind
   exact⟨b,eE (s_ (p_ x a)) b,by rw[<-h3];show M y (x%y)=_;rw[t_ x y,Nat.gcd_rec y x,t_]⟩
  ·have h:=py h;have a:0<y:=h_ λe=>by
    rw[e,hZ]at h
    grind
   exact p_ x a
  ·have h:=of_decide_eq_false h;have a:y=0:=by
    have h :¬ (au y:Int)>0:=h;have:=iX y;rw[show au y=0 by omega]at this;simpa using this
   subst a;have:x=M k l:=by rw[<-h3,Nat.gcd_zero_right]
   rw[<-this];exact aan A ⟨dG _ _,trivial⟩
def Fx{k l}(a:iC k=true)(hl:iC l=true):iC (M k l)=true:=by
 rcases o_ l with h|h
 grind
 ·exact eE (Nat.gcd_le_right k h) hl
def Yx{a b}(ha:isNat a=true)(c:isNat b=true):af PP II 161 [.str a,.str b] HP (.ret (.bM [.str (ck (M (aw a) (aw b))),.int b_ 0]) HP):=by
 refine lP (T:=[(5003,20,M4 (aw a,aw b),M5 (M (aw a) (aw b)))]) ((Yv a b (M (aw a) (aw b)) _).mpr ?_);have d:=(jv ha).2;have e:=(jv c).2;have h3:=Fx d e;rw[cb,km h3,h3,tw,ha,c];exact⟨Rj d e,aan A ⟨dG _ _,aan A ⟨dG _ _,λσ=>⟨rfl,⟨rfl,rfl⟩,trivial⟩⟩⟩⟩
def aam:ax PP II:=ax.oR 161
 (λX args d=>match args with
  |[.str a,.str b]=>X.ag (isNat a&&isNat b) (d (.bM [.str (ck (M (aw a) (aw b))),.int b_ 0]))
  |_=>X.fail)
 λX sem hX args d h=>by
  split at h
  ·obtain⟨c,e⟩:=hX.ag _ _ h;simp only[ba]at c;exact⟨_,e,λ_=>rfl,λ_=>rfl,Yx c.1 c.2⟩
  ·exact zR
def Yy{a b}(ha:isNat a=true)(d:isNat b=true)(e:0<aw b):af PP II 149 [.str a,.str b] HP (.ret (.bM [.str (ck (aw a/aw b)),.str (ck (aw a%aw b)),.int b_ 0]) HP):=by
 refine lP (T:=[]) ((Yw a b _ A A).mpr ?_);have f:=(jv ha).2;have g:=(jv d).2;have i:=eE (Nat.div_le_self (aw a) (aw b)) f;have j:=eE (s_ (p_ (aw a) e)) g;have c:a_ 0 (aw b)=true:=by rw[g_];exact e
 rw[cb (aw a),cb (aw b),cb (aw a/aw b),cb (aw a%aw b),km f,km g,km i,km j,i,j,c,tw,tw,ha,d];refine aaz (λh=>?_) (λ_=>λσ=>⟨rfl,rfl,⟨rfl,rfl⟩,trivial⟩);have h:=py h;have h:au (aw b)=0:=Int.ofNat.inj h;have:=iX (aw b)
 grind
def Vi:ax PP II:=ax.oR 149
 (λX args d=>match args with
  |[.str a,.str b]=>X.ag (isNat a&&isNat b&&a_ 0 (aw b)) (d (.bM [.str (ck (aw a/aw b)),.str (ck (aw a%aw b)),.int b_ 0]))
  |_=>X.fail)
 λX sem hX args d h=>by
  split at h
  ·obtain⟨c,e⟩:=hX.ag _ _ h;simp only[ba]at c;have h3:=c.2;rw[g_]at h3;exact⟨_,e,λ_=>rfl,λ_=>rfl,Yy c.1.1 c.1.2 h3⟩
  ·exact zR
def BV:ax PP II:=ax.pure 205
 (λX args a=>match args with
  |[.str s]=>X.ag (isNat s) (a (.bool true))
  |_=>X.fail)
 λX sem hX args a h=>by
  split at h
  ·rename_i s;obtain⟨b,c⟩:=hX.ag _ _ h;refine⟨_,c,λ_=>rfl,λ_=>rfl,?_⟩;have:=y8 s
   rwa[(uz b).1]at this
  ·exact zR
def Yz:ax PP II:=ax.oR 234
 (λX args b=>match args with
  |[.int b_ n]=>X.ag (f_ (0<=n)&&aJ b_ n) (b (.str (ck n.toNat)))
  |_=>X.fail)
 λX sem hX args b h=>by
  split at h
  ·rename_i n;obtain⟨a,c⟩:=hX.ag _ _ h;simp only[ba,bl]at a;have h3:=a.2;rw[pP]at h3;refine⟨_,c,λ_=>rfl,λ_=>rfl,?_⟩;have:=KG h3.1 h3.2
   rwa[show Lib.itoa n=ck n.toNat by have:=uw n.toNat;rw[show l_ n.toNat=n from Int.toNat_of_nonneg a.1]at this;exact this]at this
  ·exact zR
def zd:isNat [48]=true/\aw [48]=0:=by
 have h:iC 0=true:=by unfold iC;rw[mZ];rfl
 have a:=dw h;have b:=cP 0;have e:ck 0=[48]:=mZ
 grind
def Rk:ax PP II:=ax.pure 150
 (λX args c=>match args with
  |[.str a,.str [48]]=>X.ag (isNat a&&a_ 0 (aw a)) (c (.int b_ 1))
  |_=>X.fail)
 λX sem hX args c h=>by
  split at h
  ·rename_i a;obtain⟨b,d⟩:=hX.ag _ _ h;simp only[ba]at b;have h3:=b.2;rw[g_]at h3;refine⟨_,d,λ_=>rfl,λ_=>rfl,?_⟩;have:=Fw b.1 zd.1
   rwa[zd.2,show eT (aw a) 0=1 by unfold eT;omega]at this
  ·exact zR
def YA(n d)(Q){a}(b:a=(ck (M (aw (ck n.toNat)) (aw (ck d.toNat))))):(kp [Yz,BV,Rk,aam,Vi] [] 328 [.int b_ n,.int b_ d] Q)=(B (f_ (0<=n)&&aJ b_ n) (B (f_ (0<=d)&&aJ b_ d) (B (isNat (ck n.toNat)) (B (isNat (ck d.toNat)) (ak (z (ck d.toNat) [48]) (Q (n_ [m_ [i_ [],i_ []],e_ b_ 40])) (B (isNat (ck d.toNat)&&a_ 0 (aw (ck d.toNat))) (B (isNat (ck n.toNat)&&isNat (ck d.toNat)) (B (isNat (ck n.toNat)&&isNat a&&a_ 0 (aw a)) (B (isNat (ck d.toNat)&&isNat a&&a_ 0 (aw a)) (Q (n_ [m_ [i_ (ck (aw (ck n.toNat)/aw a)),i_ (ck (aw (ck d.toNat)/aw a))],e_ b_ 0]))))))))))):=by subst_vars;kernel_rfl
def M6(a b)(Q):(kp [BV,Rk,aam] [] 118 [.agg [.str a,.str b]] Q)=(B (isNat a) (B (isNat b) (B (isNat b&&a_ (0:Nat) (aw b)) (B (isNat a&&isNat b) (Q (d_ (z (ck (M (aw a) (aw b))) [49]))))))):=U
def zg:∀(k u),u<10^(k+1)->Lib.nDigits u<=k+1
 |0,u,h=>by rw[Lib.nDigits_small (by simpa using h)];omega
 |k+1,u,h=>by
  by_cases h1:u<10
  ·rw[Lib.nDigits_small h1];omega
  ·rw[Lib.nDigits_big h1];have:=zg k (u/10) O;omega
def kL{n}(h:n<9223372036854775808):iC n=true:=by
 refine il ?_;rw[Lib.decDigits_length];have:=zg 18 n O;omega
def Dy{v c k}(a:ck k=[c]):z (ck v) [c]=j_ v k:=by
 rw[<-a];cases h:j_ v k with
 |true=>rw[dV h];exact Ft _
 |false=>
  refine beq_false λe=>?_
  have:=congrArg aw e;rw[cP,cP]at this;simp_all
def KP:ck 1=[49]:=by unfold ck;rw[Lib.decDigits_one O];rfl
def lQ(n d:Nat):AV:=.agg [.str (ck (n/M n d)),.str (ck (d/M n d))]
def YB{n d:Nat}(a:n<9223372036854775808)(b:d<9223372036854775808)(g:0<d):af PP II 328 [.int b_ n,.int b_ d] HP (.ret (.bM [lQ n d,.int b_ 0]) HP):=by
 refine lP (T:=[]) ((YA n d _ A).mpr ?_);have c:v_ (n:Int)=n:=rfl;have e:v_ (d:Int)=d:=rfl;have i:0<M n d:=Y;have f:=Fx (kL a) (kL b);rw[c,e,cP,cP,cP,dw (kL a),dw (kL b),dw f,show a_ 0 d=true by simp_all,show a_ 0 (M n d)=true by simp_all];have j:z (ck d) [48]=false:=by
  rw[Dy (k:=0) mZ];cases h:j_ d 0 with
  |false=>rfl
  |true=>simp_all
 refine ZF (eJ (by rfl) (ai O O)) (ZF (eJ (by rfl) (ai O O)) (aaz (λh=>?_) λ_=>λσ=>⟨⟨rfl,rfl,trivial⟩,⟨rfl,rfl⟩,trivial⟩));simp_all
def kOf:ax PP II:=ax.oR 328
 (λX args a=>match args with
  |[.int b_ n,.int b_ d]=>X.ag (f_ (0<=n)&&f_ (n<9223372036854775808)&&f_ (0<d)&&f_ (d<9223372036854775808)) (a (.bM [lQ n.toNat d.toNat,.int b_ 0]))
  |_=>X.fail)
 λX sem hX args a h=>by
  split at h
  ·rename_i n d;obtain⟨b,c⟩:=hX.ag _ _ h;simp only[ba,bl]at b;refine⟨_,c,λ_=>rfl,λ_=>rfl,?_⟩;have:=YB (n:=n.toNat) (d:=d.toNat) O O O
   grind
  ·exact zR
def bX(a b:List UInt8):Bool:=isNat a&&isNat b&&a_ 0 (aw b)&&j_ (M (aw a) (aw b)) 1
def Fy{a b}(h:bX a b=true):af PP II 118 [.agg [.str a,.str b]] HP (.ret (.bool true) HP):=by
 unfold bX at h;simp only[ba]at h;obtain⟨⟨⟨c,d⟩,h3⟩,h4⟩:=h;refine lP (T:=[]) ((M6 a b _).mpr ?_);rw[c,d,h3];have e:z (ck (M (aw a) (aw b))) [49]=true:=by rw[Dy KP,h4]
 refineλσ=>?_
 assumption
def M7:ax PP II:=ax.oR 118
 (λX args c=>match args with
  |[.agg [.str a,.str b]]=>X.ag (bX a b) (c (.bool true))
  |_=>X.fail)
 λX sem hX args c h=>by
  split at h
  ·obtain⟨d,e⟩:=hX.ag _ _ h;exact⟨_,e,λ_=>rfl,λ_=>rfl,Fy d⟩
  ·exact zR
def IJ{ι:Type}(n0 l:Nat)(J:ι->Prop)(S:ι->St)(E:ι->aK)(a:ι->Nat)(i:ι):aK->Prop
 | .g b s=>b=l/\∃j,J j/\a j<a i/\St.Le n0 s (S j)/\E j=E i
 |e=>aK.Le n0 e (E i)
def Dz{P:Program}{I:bg}{ι:Type}{n0 l:Nat}{J:ι->Prop}{S:ι->St}{E:ι->aK}{K:ι->Nat}{r c:Code}{ir:Bool}(u:I.G<=n0)(L:findLabel c l=Option.some r)
  (k:∀i,J i->∃e,eW P I ir (.code r) (S i) e/\IJ n0 l J S E K i e):
  ∀m i,J i->K i<m->∀ro n f ρ a w,(ir=false->ro=Option.none)->f.G=I.G->(∀l,f.E l->l<n0)->cL f ρ (S i) a w->gE (WF ro) n P (.inScope r c) ((E i).lN n0 f ρ) a w:=by
 intro m
 induction m with
 |zero=>omega
 |succ m N=>
  intro i Q hi ro n f ρ a w o hG q R;obtain⟨e,T,t⟩:=k i Q;refine jG ?_;have U:r.wpIn (WF ro) n P (e.post f ρ) a w:=T ro n f ρ a w o hG R;refine wpIn_mono U λx a1 V d=>?_
  have h:f.G<=n0:=by rw[hG];exact u
  cases e with
  |n s=>
   cases x with
   |normal=>exact aK.j9 t h q (aK.j8 d)
   |_=>exact d.elim
  |x i s=>
   cases x with
   |exit id=>exact aK.j9 t h q (aK.j8 d)
   |_=>exact d.elim
  |g b s=>
   cases x with
   |goto id=>obtain⟨rfl,W,hx,y⟩:=d;obtain⟨rfl,j,C,X,D,F⟩:=t;obtain⟨H,h3,h4⟩:=y.view D h q;have:=N j C O ro n f H a1 V o hG q h4;rw[F]at this;simp only[oF,L];exact this.mono λx a w d=>aK.jQ ((jI.of hx).trans h3) d
   |_=>exact d.elim
  |r s=>
   cases x with
   |ret=>exact aK.j9 t h q (aK.j8 d)
   |_=>exact d.elim
  |p v s=>simp only[IJ,aK.Le]at t
def Fz{P I ι s l J S E}(j){r c ir}{i:ι}(b:I.G<=s.H.n)(o:findLabel c l=Option.some r)(p:J i)(start:St.Le s.H.n s (S i))
  (d:∀i,J i->∃e,eW P I ir (.code r) (S i) e/\IJ s.H.n l J S E j i e):eW P I ir (.inScope r c) s (E i):=by
 intro ro n k ρ a w f hG g;have m:∀l,k.E l->l<s.H.n:=λl hl=>(g.heap.env l hl).1
 obtain⟨h,q,t⟩:=g.view start (by rw[hG];exact b) m;have:=Dz b o d (j i+1) i p (Nat.lt_succ_self _) ro n k h a w f hG m t;exact this.mono λx a w u=>aK.pM g.heap A (aK.jQ q u)
def WV{ι:Type}(n0 l:Nat)(S:ι->St)(E:ι->GE)(a:ι->ι)(Q:Prop)(i:ι):KS Prop :=
 {n:=λs=>(E i).meets n0 (.n s)
  x:=λb s=>(E i).meets n0 (.x b s)
  g:=λb s=>B (j_ b l) (oH n0 s (S (a i)) Q)
  r:=λs=>(E i).meets n0 (.r s)
  p:=λ_ _=>False}
def rX.of{P I}(hI:I.Ok P)(ks:List (ax P I)){t}(o:gv P I id t)(fuel){ι r c ir}(n0 l:Nat)(J:ι->Prop)(S)(E)(j:ι->Nat)(d)(i0)
  (u:r_ I.G n0=true) (v:findLabel c l=Option.some r) (w:J i0)
  (m:∀i,J i->w7 ks t fuel ir (.code r) (S i) (WV n0 l S E d (J (d i)/\j (d i)<j i/\(E (d i)).pick=(E i).pick) i)):rX P I ir r c n0 (S i0) (E i0) where
 h s0 q y:=by
  subst q;refine Fz (S:=S) (E:=λi=>(E i).pick) (J:=J) (l:=l) j (by simp_all) v w y λi hi=>?_
  obtain⟨e,f,C⟩:=pN hI ks o fuel ir _ _ _ (m i hi);refine⟨e,C,?_⟩;cases e with
  |n s=>exact GE.fJ (g:=E i) f
  |x b s=>exact GE.fJ (g:=E i) f
  |g b s=>obtain⟨H,f⟩:=aaZ f;obtain⟨k1,k2,D,F⟩:=oH.ok (K:=J (d i)/\j (d i)<j i/\(E (d i)).pick=(E i).pick) f;exact⟨by simp_all,d i,k2,D,k1,F⟩
  |r s=>exact GE.fJ (g:=E i) f
  |p a s=>assumption
def kM:Code->Option Code
 | .seq a b=>match kM a with|some c=>Option.some c|none=>kM b
 | .cond _ a b=>match kM a with|some c=>Option.some c|none=>kM b
 | .block _ c=>kM c
 | .loop c=>kM c
 | .scope c=>Option.some c
 |_=>Option.none
def IK(I:bg)(f:FuncId):Code:=match I.body f with
 |some (c,_,_)=>match kM c with|some c=>c|none=> .skip
 |none=> .skip
def IL(I:bg)(f:FuncId)(l:Nat):Code:=match findLabel (IK I f) l with|some r=>r|none=> .skip
abbrev krj{ι:Type}(ks:List (ax PP II))(T:l6)(f l n0:Nat)(S:ι->St)(E:ι->GE)(a:ι->ι)(Q:Prop)(i:ι):Prop :=
 w7 ks (mO PP II T) 1000 false (.code (IL II f l)) (S i) (WV n0 l S E a Q i)
structure FP where
 a:Nat
 b:Nat
 c:Nat
 d:Nat
 s:Int
def M8(p:FP):St:={t:=c_ [(2,.ptr 12 0 0 0),(3,.ptr 13 0 0 0),(5,.int b_ p.s)],nt:=74,H:={n:=27,t:=c_ [(6,.cells dS (.ex 20)),(12,.cells [.str (ck p.a),.str (ck p.b)] (.ty 32)),(13,.cells [.str (ck p.c),.str (ck p.d)] (.ty 32))]},df:=[]}
def M9(r:Int):GE:=.one (.r {t:=c_ [(4,.int b_ r)],nt:=74,H:={n:=27,t:=c_ [(6,.cells dS (.ex 20))]},df:=[]})
def Na(a b c d)(s r)(h)(Q){g}(i:g=(ak (z (ck (aw (ck a)%aw (ck b))) [48]) (B (aJ b_ (0-s)) (aS (0-s) r True)) (ak (z (ck (aw (ck c)%aw (ck d))) [48]) (aS s r True) (B (aJ b_ (0-s)) (B (f_ (ck d=ck d)) (eX (ck d) (ck (h {a:=a,b:=b,c:=c,d:=d,s:=s}).c) (eX (ck (aw (ck c)%aw (ck d))) (ck (h {a:=a,b:=b,c:=c,d:=d,s:=s}).d) (eX (ck b) (ck (h {a:=a,b:=b,c:=c,d:=d,s:=s}).a) (eX (ck (aw (ck a)%aw (ck b))) (ck (h {a:=a,b:=b,c:=c,d:=d,s:=s}).b) (aS (0-s) (h {a:=a,b:=b,c:=c,d:=d,s:=s}).s Q)))))))))){e}(j:e=(ck (aw (ck a)/aw (ck b)))){f}(k:f=(ck (aw (ck c)/aw (ck d)))):(krj [Vi,IH] [] 109 0 27 M8 (λ_=>M9 r) h Q ⟨a,b,c,d,s⟩)=(B (isNat (ck a)&&isNat (ck b)&&a_ 0 (aw (ck b))) (B (isNat (ck c)&&isNat (ck d)&&a_ 0 (aw (ck d))) (B (isNat e&&isNat f) (ak (!decide (eT (aw e) (aw f)=0)) (B (aJ b_ (s*eT (aw e) (aw f))) (aS (s*eT (aw e) (aw f)) r True)) (ak (z (ck (aw (ck a)%aw (ck b))) [48]) (ak (z (ck (aw (ck c)%aw (ck d))) [48]) (aS 0 r True) g) g))))):=by subst_vars;kernel_rfl
def Vj(a b c d)(r)(p)(Q){g}(h:g=(ak (z (ck (aw (ck a)%aw (ck b))) [48]) (B (aJ b_ (-1:Int)) (Q (e_ b_ (-1:Int)))) (ak (z (ck (aw (ck c)%aw (ck d))) [48]) (Q (e_ b_ 1)) (B (aJ b_ (-1:Int)) (B (f_ (ck d=ck d)) (rX PP II false (IL II 109 0) (IK II 109) 27 (M8 p) (M9 r)/\eX (ck d) (ck p.c) (eX (ck (aw (ck c)%aw (ck d))) (ck p.d) (eX (ck b) (ck p.a) (eX (ck (aw (ck a)%aw (ck b))) (ck p.b) (aS (-1:Int) p.s (Q (e_ b_ r)))))))))))){e}(i:e=(ck (aw (ck a)/aw (ck b)))){f}(j:f=(ck (aw (ck c)/aw (ck d)))):(kp [M7,Vi,IH] [(500000,27,M8 p,M9 r)] 109 [.agg [.str (ck a),.str (ck b)],.agg [.str (ck c),.str (ck d)]] Q)=(B (bX (ck a) (ck b)) (B (bX (ck c) (ck d)) (B (isNat (ck a)&&isNat (ck b)&&a_ 0 (aw (ck b))) (B (isNat (ck c)&&isNat (ck d)&&a_ 0 (aw (ck d))) (B (isNat e&&isNat f) (ak (!decide (eT (aw e) (aw f)=0)) (B (aJ b_ (1*eT (aw e) (aw f))) (Q (e_ b_ (1*eT (aw e) (aw f))))) (ak (z (ck (aw (ck a)%aw (ck b))) [48]) (ak (z (ck (aw (ck c)%aw (ck d))) [48]) (Q (e_ b_ 0)) g) g))))))):=by subst_vars;kernel_rfl
end
end Go.Sx
