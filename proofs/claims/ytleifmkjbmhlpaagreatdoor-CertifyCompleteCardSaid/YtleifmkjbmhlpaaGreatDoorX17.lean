/- The proof of a statement of the seat, part 17. -/
import Derived.Sort.Grow
import Derived.Test.YtleifmkjbmhlpaaGreatDoorX15
import Derived.Test.YtleifmkjbmhlpaaGreatDoorX16
import Derived.Lib.SmallJoins
import Derived.Lib.ItoaMem
import Derived.Test.YtleifmkjbmhlpaaGreatDoorX01
import Derived.Test.YtleifmkjbmhlpaaGreatDoorX10
set_option linter.all false
set_option linter.defProp false
set_option maxRecDepth 1000000
namespace Go.Sx
open Go
open Int renaming ofNat->M,toNat->c_,toNat_of_nonneg->q_
open List renaming length->z,append->e_,length_append->h_,replicate->i_,drop->j_,take->k_,beq->m_,drop_zero->n_,mem_cons_self->r_,map_cons->u_
open Decidable renaming decide->a_
open UInt8 renaming ofNat->b_,toNat->x_
open Tr renaming ofList->d_
open AH renaming blank->f_
open Go.IntKind renaming i64->g_
open Nat renaming ble->l_,div_eq_of_lt->s_,strongRecOn->t_,beq->y_,le_trans->z_,pow_zero->A_,sub_zero->B_,zero_le->D_,div_one->E_
open AV renaming bool->o_,int->p_,str->w_,bM->G_,le->H_
noncomputable section
def dS:List AV:=Lib.pow10Tab.map λa=> .int .u64 a
def HP:AH:={n:=12,t:=d_ [(6,.cells dS (.ex 20))]}
def Iv(cs:List AV)(m:Nat):aae->Bool
 | .cells ds (.ex k)=>rY ds cs&&y_ k m
 |_=>false
def vJ{cs m b}(h:Iv cs m b=true):b= .cells cs (.ex m):=by
 unfold Iv at h;split at h
 ·simp only[ba]at h;rw[tn _ _ h.1,dV h.2]
 ·cases h
def QX(H:AH):Bool:=Iv dS 20 (H.get 6)
def Dr(i):HP.get i=if i=6 then .cells dS (.ex 20)else .dead:=by
 show AH.get {n:=12,t:=d_ [(6,_)]} i=_;simp only[AH.get,d_,Tr.bk,Tr.nK]
 grind
def tu(σ):bj.bx σ dS=dS:=by
 rfl
def vK(σ):bj.le σ dS dS:=by
 unfold dS;generalize Lib.pow10Tab=l
 induction l with
 |nil=>trivial
 |cons a l b=>exact⟨⟨rfl,rfl⟩,b⟩
def af.oR{f args a H}(h:af PP II f args HP (.ret a HP))(d:QX H=true)(b:∀σ,bj.bx σ args=args)(ha:∀σ,a.bx σ=a):af PP II f args H (.ret a H):=by
 refine af.Qx (I:=II) (H0:=HP) h A (λi hi=>?_) (λi hi c=>?_) b ha
 ·have hi:12<=i:=hi;rw[Dr,if_neg O]
 ·by_cases e:i=6
  ·subst e;rw[vJ d];refine⟨rfl,λσ=>?_⟩;rfl
  ·rw[Dr,if_neg e]at c;exact absurd A c
def ax.oR(f:FuncId)(spec:{R:Type}->RI R->List AV->(AV->R)->R)
  (ok:∀{R:Type}(X:RI R)(sem:R->Prop),X.Ok sem->∀args b,sem (spec X args b)->∃a,sem (b a)/\(∀σ,a.bx σ=a)/\(∀σ,bj.bx σ args=args)/\af PP II f args HP (.ret a HP)):ax PP II where
 f:=f
 spec X args H b _:=kJ X 100000 args H λargs' H'=>X.ag (QX H') (spec X args' λa=>b a H')
 ok X sem hX args H b kp h:=by obtain⟨args',H',c,d⟩:=iy hX _ _ _ _ h;obtain⟨i,c⟩:=hX.ag _ _ c;obtain⟨a,k1,k2,j,l⟩:=ok X sem hX _ _ c;exact⟨.ret a H',k1,(l.oR i j k2).pO d⟩
abbrev kp(ks:List (ax PP II))(T:l6)(f:FuncId)(args:List AV)(Q:AV->Prop):Prop :=
 ka ks (mO PP II T) 1000 f args HP (λa H=>tK RI.l3 100000 a H λa' H2=>B (l_ 12 H2.n&&QX H2) (Q a')) (λ_ _=>False)
def lP{ks:List (ax PP II)}{T:l6}{f:FuncId}{args:List AV}{a':AV}(h:kp ks T f args (λa=> ∀σ,H_ σ a a')):af PP II f args HP (.ret a' HP):=by
 obtain⟨o,c,d⟩:=iJ fU ks (aX PP II T) 1000 f args HP _ _ h;cases o with
 |ret a H1=>
  obtain⟨x,H2,k1,k2⟩:=lz RI.dX _ _ _ _ c;obtain⟨b,k1⟩:=aaZ k1;have k1:∀σ,H_ σ x a':=k1;simp only[ba]at b;refine(d.yu k2).le (mM.of [] (ie.of (by rfl) A A A b.1 (fI.2 λl hl=>?_)) (k1 _));rw[Dr];by_cases e:l=6
  ·subst e;rw[if_pos A];have g:sig HP.n [] H2.n 6=6:=rfl;have:=fT b.1;show if sig HP.n [] H2.n 6<H2.n then aae.le (sig HP.n [] H2.n) (H2.get (sig HP.n [] H2.n 6)) (aae.cells dS (.ex 20))else _
   rw[g,if_pos O,vJ b.2];exact⟨vK _,rfl⟩
  ·rw[if_neg e];trivial
 |rL a H1=>exact c.elim
def MW{c:fE}{ρ:Env}{w:World}(h:Rel c ρ HP w)(hG:c.G=II.G):Lib.TabIs PP w "internal/strconv.uint64pow10" .u64 Lib.pow10Tab:=by
 have d:=h.eB 6;rw[Dr,if_pos A]at d;obtain⟨N,f⟩:=h.eZ 6 (by rw[hG];show 6<12;omega);rw[f]at d;rcases d with⟨_,d⟩|⟨b,o,vs,rest,el,p,h1,q,h3,h4,g,_⟩
 ·cases d
 ·cases h1;have hl:N=20:=g.ex 20 A;have i:vs.length=20:=by rw[<-h4.length_eq];rfl
  have j:rest=[]:=by rw[h_]at h3;exact(by simp_all)
  subst j;have k:vs=Lib.pow10Tab.map λa=>Value.int .u64 a:=by
   have:∀(l:List Int)(vs:List Value),aV ρ (l.map λa=>p_ .u64 a) vs->vs=l.map λa=>Value.int .u64 a:=by
    intro l
    induction l with
    |nil=>intro vs h;exact h
    |cons a l m=>intro vs h;obtain⟨u,us,rfl,e,n⟩:=h;rw[m us n];have e:u= .int .u64 a:=e;rw[e];rfl
   exact this _ _ h4
  unfold Lib.TabIs World.var?;rw[show PP.globalNamed "internal/strconv.uint64pow10" =Option.some 6 from Go.Proofs.Tryz.Fo.m17]
  grind
def Iw(w)(k)(os):RowKit.Below w.heap.size w (Sort.grow (w.drewN k) os):=
 ⟨rfl,rfl,rfl,zA,λi hi=>by show(w.heap++os)[i]? =_;grind⟩
def KG{n}(b : -9223372036854775808<=n)(d:n<=9223372036854775807):af PP II 234 [.int g_ n] HP (.ret (.str (Lib.itoa n)) HP):=
 af.qZ zA λc ρ w vs hG f g=>by
  obtain⟨u,us,rfl,a,rfl⟩:=f;have a:u= .int g_ n:=a;subst a;refine(Go.Proofs.Any.strconv_Itoa Go.Proofs.Tryz.Fo n b d w (MW g hG)).mono ?_
  rintro e w' ⟨rfl,k,os,rfl⟩
  exact⟨_,rfl,rfl,Iw w k os⟩
def KH:ax PP II:=ax.oR 234
 (λX args b=>match args with
  |[.int g_ n]=>X.ag (aJ g_ n) (b (.str (Lib.itoa n)))
  |_=>X.fail)
 λX sem hX args b h=>by
  split at h
  ·obtain⟨a,c⟩:=hX.ag _ _ h;rw[pP]at a;exact⟨_,c,λ_=>rfl,λ_=>rfl,KG a.1 a.2⟩
  ·exact zR
def jM(s:List UInt8):Bool:=match Lib.atoiAll s with| .ok _=>true|_=>false
def cz(s:List UInt8):Int:=match Lib.atoiAll s with| .ok v=>v|_=>0
def MX{s}(h:jM s=true):Lib.atoiAll s= .ok (cz s):=by
 unfold jM at h;unfold cz
 grind
def Ve{s}(h:jM s=true)(hl:s.length<=1000000):af PP II 117 [.str s] (f_ 12) (.ret (.bM [.int g_ (cz s),.nilIface]) (f_ 12)):=
 af.qZ zA λc ρ w vs hG b d=>by
  obtain⟨u,us,rfl,a,rfl⟩:=b;have a:u= .string ⟨s.toArray⟩:=a;subst a;refine(Go.Proofs.Any.strconv_Atoi_ok Go.Proofs.Tryz.QV ⟨s.toArray⟩ (by show s.toArray.size<=_;simp;omega) (cz s) (MX h) w).mono ?_
  rintro e w' ⟨rfl,hw⟩
  refine⟨_,rfl,?_,?_⟩
  ·simp only[VR,aV];simp
  ·rcases hw with rfl|⟨t,rfl⟩
   ·exact RowKit.Below.refl _ _
   ·exact Joins.below_bytesWorld _ _ _ _ (dP _)
def KI:ax PP II:=ax.pure 117
 (λX args a=>match args with
  |[.str s]=>X.ag (jM s&&l_ s.length 1000000) (a (.bM [.int g_ (cz s),.nilIface]))
  |_=>X.fail)
 λX sem hX args a h=>by
  split at h
  ·obtain⟨b,c⟩:=hX.ag _ _ h;simp only[ba]at b;exact⟨_,c,λ_=>rfl,λ_=>rfl,Ve b.1 (by simp_all)⟩
  ·exact zR
def tv:List UInt8:=[48,49,50,51,52,53,54,55,56,57]
def BP(s:List UInt8):List UInt8:=Lib.trimS s tv
def QY{s}(hl:s.length<=1000000):af PP II 241 [.str s,.str tv] (f_ 12) (.ret (.str (BP s)) (f_ 12)):=
 af.qZ zA λc ρ w vs hG d h=>by
  obtain⟨u,us,rfl,a,f,g,rfl,b,rfl⟩:=d;have a:u= .string ⟨s.toArray⟩:=a;have b:f= .string ⟨tv.toArray⟩:=b;subst a b;refine(Go.Proofs.Any.strings_Trim_laid Go.Proofs.Tryz.QW U ⟨s.toArray⟩ ⟨tv.toArray⟩ w (by show s.toArray.size<=_;simp;omega) zC (Go.Proofs.ascii_of_all zC)).mono ?_
  rintro e w' ⟨rfl,hw⟩
  exact⟨_,rfl,rfl,hw⟩
def QZ:ax PP II:=ax.pure 241
 (λX args a=>match args with
  |[.str s,.str [48,49,50,51,52,53,54,55,56,57]]=>X.ag (l_ s.length 1000000) (a (.str (BP s)))
  |_=>X.fail)
 λX sem hX args a h=>by
  split at h
  ·obtain⟨c,b⟩:=hX.ag _ _ h;exact⟨_,b,λ_=>rfl,λ_=>rfl,QY (by simp_all)⟩
  ·exact zR
def nU(n:Nat):List UInt8:=i_ n 48
def Q0:Go.Proofs.Builder.Extra PP Go.Proofs.Tryz.q5 where
 sizeBuilder:=U
 liesBuilder:=U
 t5:=by rfl
 a5:=Go.Proofs.Tryz.isAgg5
 z5:=Go.Proofs.Tryz.sizeOf5
 v5:=Go.Proofs.Tryz.zeroValue5
 infoByte:=U
 cellsByte:=U
 sizeByte:=U
 neB5:=zC
def repeatL_one:∀n,Lib.repeatL [48] n=i_ n 48
 |0=>rfl
 |n+1=>by rw[Lib.repeatL,repeatL_one n];rfl
def Ys{n:Nat}(hl:n<=1000000):af PP II 235 [.str [48],.int g_ n] (f_ 12) (.ret (.str (nU n)) (f_ 12)):=
 af.qZ zA λc ρ w vs hG d h=>by
  obtain⟨u,us,rfl,a,f,g,rfl,b,rfl⟩:=d;have a:u= .string ⟨#[48]⟩:=a;have b:f= .int g_ n:=b;subst a b;refine(Go.Proofs.Any.strings_Repeat Go.Proofs.Tryz.Iu Q0 ⟨#[48]⟩ n w O (by show 1*n<=_;omega)).mono ?_
  rintro e w' ⟨rfl,hw⟩
  refine⟨_,rfl,?_,hw⟩;show Value.string ⟨(Lib.repeatL [48] n).toArray⟩=_;rw[repeatL_one];rfl
def xz:ax PP II:=ax.pure 235
 (λX args a=>match args with
  |[.str [48],.int g_ n]=>X.ag (a_ (0<=n)&&a_ (n<=1000000)) (a (.str (nU n.toNat)))
  |_=>X.fail)
 λX sem hX args a h=>by
  split at h
  ·rename_i n;obtain⟨b,c⟩:=hX.ag _ _ h;simp only[ba,bl]at b;refine⟨_,c,λ_=>rfl,λ_=>rfl,?_⟩;have:=Ys (n:=n.toNat) O
   rwa[q_ b.1]at this
  ·exact zR
def aaj(b:Bool)(k v:Nat)(a:Option (List UInt8)):AH:=match a with
 |none=>{n:=17,t:=d_ [(6,.cells dS (.ex 20)),(12,.cells [.bool b,.ae k 1 (aI v)] (.ty 267)),(13,.cells [.nilPtr,.aD] (.ty 153)),(14,.cells [.ae k 1 (aI v)] (.ty 265)),(15,.tL),(16,.loop .ready none (d_ [(1,.ptr 12 0 0 0),(4,.ptr 13 0 0 0)]) 43 [16,17] (aP II 191) (aQ II 191) 15)]}
 |some s=>{n:=18,t:=d_ [(6,.cells dS (.ex 20)),(12,.cells [.bool b,.ae k 1 (aI v)] (.ty 267)),(13,.cells [.ptr 13 0 0 0,.own 17 s.length 1] (.ty 153)),(14,.cells [.ae k 1 (aI v)] (.ty 265)),(15,.tL),(16,.loop .ready none (d_ [(1,.ptr 12 0 0 0),(4,.ptr 13 0 0 0)]) 43 [16,17] (aP II 191) (aQ II 191) 15),(17,.str s (.ty 5))]}
def Ix(b:Bool)(k v:Nat)(C:Int->List UInt8)(i:Bool×Int):St:={t:=d_ [(0,.yield 16),(1,.ptr 14 0 0 0),(3,.int g_ i.2)],nt:=19,H:=aaj b k v (match i.1 with|false=>Option.none|true=>Option.some (C i.2)),df:=[]}
def Ds(b:Bool)(k v:Nat)(r:List UInt8):GE:=.one (.x 0 {t:=.e,nt:=19,H:=aaj b k v (some r),df:=[]})
def Iy(b)(k v)(C)(r)(j)(Q){a}(e:a=(Lib.itoa (aU v j.toNat))){c}(f:c=(nU (c_ (4-M (z a))))){d}(g:d=(b=b/\zyN k (zyR k (aI v) (zyI (j-1) Q)))):(kr [KH,xz,bt] [] 247 1002 17 (Ix b k v C) (λ_=>Ds b k v r) (λi=>(true,i.2-1)) Q (false,j))=(ak (a_ (j>=0)) (B (a_ (0<=j)&&a_ (j<M k)) (B (aJ g_ (aU v j.toNat)) (B (aJ g_ (M k-1)) (ak (a_ (j<M k-1)) (B (aJ g_ (4-M (z a))) (B (a_ (0<=4-M (z a))&&a_ (4-M (z a)<=1000000)) (B (a_ (z c+z a<=9223372036854775807)) (B (a_ ((0+z (e_ c a))*1<=140737488355328)&&true) (B (aJ g_ (j-1)) (eX (e_ c a) (C (j-1)) (aH (aP II 191) (aP II 191)/\aH (aQ II 191) (aQ II 191)/\zyN k (zyR k (aI v) (bh (z (e_ c a)) (z (C (j-1))) d))))))))) (B (a_ ((0+z a)*1<=140737488355328)&&true) (B (aJ g_ (j-1)) (eX a (C (j-1)) (aH (aP II 191) (aP II 191)/\aH (aQ II 191) (aQ II 191)/\zyN k (zyR k (aI v) (bh (z a) (z (C (j-1))) d)))))))))) (eX r [] (aH (aP II 191) (aP II 191)/\aH (aQ II 191) (aQ II 191)/\zyN k (zyR k (aI v) False)))):=by subst_vars;kernel_rfl
def y7(b)(k v)(C)(r)(j)(Q){a}(g:a=(Lib.itoa (aU v j.toNat))){c}(h:c=(nU (c_ (4-M (z a))))){d}(l:d=(b=b/\zyN k (zyR k (aI v) (zyI (j-1) Q)))){e}(m:e=(a_ (z (C j)=z (C j))&&true)){f}(n:f=(z (C j)+z (e_ c a))):(kr [KH,xz,bt] [] 247 1002 17 (Ix b k v C) (λ_=>Ds b k v r) (λi=>(true,i.2-1)) Q (true,j))=(ak (a_ (j>=0)) (B (a_ (0<=j)&&a_ (j<M k)) (B (aJ g_ (aU v j.toNat)) (B (aJ g_ (M k-1)) (ak (a_ (j<M k-1)) (B (aJ g_ (4-M (z a))) (B (a_ (0<=4-M (z a))&&a_ (4-M (z a)<=1000000)) (B (a_ (z c+z a<=9223372036854775807)) (B (a_ (z (C j)<=z (C j))&&true&&true&&a_ (f*1<=140737488355328)&&e) (B (aJ g_ (j-1)) (eX (e_ (C j) (e_ c a)) (C (j-1)) (aH (aP II 191) (aP II 191)/\aH (aQ II 191) (aQ II 191)/\zyN k (zyR k (aI v) (bh f (z (C (j-1))) d))))))))) (B (a_ (z (C j)<=z (C j))&&true&&true&&a_ ((z (C j)+z a)*1<=140737488355328)&&e) (B (aJ g_ (j-1)) (eX (e_ (C j) a) (C (j-1)) (aH (aP II 191) (aP II 191)/\aH (aQ II 191) (aQ II 191)/\zyN k (zyR k (aI v) (bh (z (C j)+z a) (z (C (j-1))) d)))))))))) (eX (C j) r (aH (aP II 191) (aP II 191)/\aH (aQ II 191) (aQ II 191)/\zyN k (zyR k (aI v) (bh (z (C j)) (z r) (b=b/\zyN k (zyR k (aI v) True))))))):=by subst_vars;kernel_rfl
def Vf(b)(k v)(C)(r)(Q):(kp [KH,xz,bt] [(1002,17,Ix b k v C (false,M k-1),Ds b k v r)] 191 [.agg [.bool b,.ae k 1 (aI v)]] Q)=(ak (a_ (M k=0)) (Q (G_ [w_ [48],p_ g_ 0])) (B (aJ g_ (M k-1)) (ay PP II false (az II 247 1002) 17 (Ix b k v C (false,M k-1)) (Ds b k v r)/\aH (aP II 191) (aP II 191)/\aH (aQ II 191) (aQ II 191)/\zyN k (zyR k (aI v) (b=b/\zyN k (zyR k (aI v) (zyI (M k-1) (B (a_ (0<z r)) (B (a_ (z r=z r)&&true) (B (a_ (M (z r)=M (z r))) (B (a_ (c_ (M (z r))=z r)&&true&&true&&a_ (0<M (z r))&&a_ (M (z r)<=9223372036854775807)&&true) (ak (a_ (M (z r)>200)) (Q (G_ [w_ [],p_ g_ 30])) (ak b (B (a_ (1+z r<=9223372036854775807)) (Q (G_ [w_ (45::r),p_ g_ 0]))) (Q (G_ [w_ r,p_ g_ 0]))))))))))))))):=U
def mY{x d:Nat}(hx:0<x)(c:d<10):Lib.decDigits (x*10+d)=Lib.decDigits x++[b_ (48+d)]:=by
 rw[Lib.decDigits,dif_neg O];have a:(x*10+d)/10=x:=O;have b:(x*10+d)%10=d:=O;rw[a,b]
def MY{x a b c d:Nat}(hx:0<x)(ha:a<10)(f:b<10)(g:c<10)(h:d<10):
  Lib.decDigits (x*10000+(a*1000+b*100+c*10+d))=Lib.decDigits x++[b_ (48+a),b_ (48+b),b_ (48+c),b_ (48+d)]:=by
 have e:x*10000+(a*1000+b*100+c*10+d)=(((x*10+a)*10+b)*10+c)*10+d:=O;rw[e,mY O h,mY O g,mY O f,mY hx ha];simp
def uv{l:Nat}(hl:l<10000):i_ (4-(Lib.decDigits l).length) 48++Lib.decDigits l=[b_ (48+l/1000),b_ (48+l/100%10),b_ (48+l/10%10),b_ (48+l%10)]/\(Lib.decDigits l).length<=4/\0<(Lib.decDigits l).length:=by
 by_cases h1:l<10
 ·have e:l/1000=0:=by omega
  have f:l/100%10=0:=O;have g:l/10%10=0:=O;have e4:l%10=l:=O;rw[e,f,g,e4,Lib.decDigits_one h1];exact⟨rfl,zA,zA⟩
 ·obtain⟨x,d,h,rfl,hx⟩:∃x d,d<10/\l=x*10+d/\0<x:=⟨l/10,l%10,O,O,O⟩;have e4:(x*10+d)%10=d:=O;have g:(x*10+d)/10%10=x%10:=O;have f:(x*10+d)/100%10=x/10%10:=O;have e:(x*10+d)/1000=x/100:=O;rw[e,f,g,e4,mY hx h];by_cases i:x<10
  ·have f1:x/100=0:=by omega
   have j:x/10%10=0:=O;have k:x%10=x:=O;rw[f1,j,k,Lib.decDigits_one i];exact⟨rfl,zA,zA⟩
  ·obtain⟨y,c,m,rfl,n⟩:∃y c,c<10/\x=y*10+c/\0<y:=⟨x/10,x%10,O,O,O⟩;have g3:(y*10+c)%10=c:=O;have g2:(y*10+c)/10%10=y%10:=O;have g1:(y*10+c)/100=y/10:=O;rw[g1,g2,g3,mY n m];by_cases h3:y<10
   ·have k1:y/10=0:=by omega
    have k2:y%10=y:=O;rw[k1,k2,Lib.decDigits_one h3];exact⟨rfl,zA,zA⟩
   ·obtain⟨a,b,o,rfl,p⟩:∃a b,b<10/\y=a*10+b/\0<a:=⟨y/10,y%10,O,O,O⟩;have q:(a*10+b)%10=b:=O;have r:(a*10+b)/10=a:=O;rw[r,q,mY p o,Lib.decDigits_one (O:a<10)];exact⟨rfl,zA,zA⟩
def BQ{x l:Nat}(hx:0<x)(hl:l<10000):Lib.decDigits (l+10000*x)=Lib.decDigits x++(i_ (4-(Lib.decDigits l).length) 48++Lib.decDigits l):=by
 rw[(uv hl).1];have e:l+10000*x=x*10000+(l/1000*1000+l/100%10*100+l/10%10*10+l%10):=O;rw[e,MY hx O O O O]
def uw(l:Nat):Lib.itoa (M l)=Lib.decDigits l:=Lib.itoa_nonneg l
def aH.same(a):aH a a:=rfl
def G6(v:Nat)(j:Int):List UInt8:=Lib.decDigits (v/10000^(j+1).toNat)
def KJ{v}(c:(Lib.decDigits v).length<=200)(j):(G6 v j).length<=200:=by
 refine z_ ?_ c;unfold G6;rw[Lib.decDigits_length,Lib.decDigits_length];have mono:∀(a b:Nat),a<=b->Lib.nDigits a<=Lib.nDigits b:=by
  intro a
  induction a using t_ with
  |_ a d=>
   intro b e;by_cases h:a<10
   ·rw[Lib.nDigits_small h];exact Lib.nDigits_pos b
   ·rw[Lib.nDigits_big h,Lib.nDigits_big (O:¬ b<10)];have:=d (a/10) O (b/10) O;omega
 exact mono _ _ (Nat.div_le_self _ _)
def Q2{v n}(a:n+1=au v):Lib.itoa (aU v n)=G6 v (M n-1):=by
 have e:(M n-1+1).toNat=n:=by show((n:Int)-1+1).toNat=_;omega
 unfold G6;rw[e];show Lib.itoa (M (bH v n))=_;rw[uw,gS,a,s_ (iX v)];rfl
def Vg{v n}(d:n+1<au v):e_ (G6 v (M n)) (e_ (nU (c_ (4-M (Lib.itoa (aU v n)).length))) (Lib.itoa (aU v n)))=G6 v (M n-1):=by
 have e:(M n-1+1).toNat=n:=by show((n:Int)-1+1).toNat=_;omega
 have b:(M n+1).toNat=n+1:=by show((n:Int)+1).toNat=_;omega
 have hi:Lib.itoa (aU v n)=Lib.decDigits (bH v n):=uw _;unfold G6;rw[e,b,hi,gS v n];have a:0<v/10000^(n+1):=by
  refine Nat.pos_of_ne_zero λh=>?_
  rcases Nat.div_eq_zero_iff.1 h with h|h
  ·grind
  ·have:=fw _ _ h;omega
 have hl:=(uv (l7 v n)).2.1;rw[BQ a (l7 v n)];have c:c_ (4-M (Lib.decDigits (bH v n)).length)=4-(Lib.decDigits (bH v n)).length:=by show c_ (4-((Lib.decDigits (bH v n)).length:Int))=_;omega
 rw[c];rfl
def MZ{b v}(F:0<au v)(G:au v<=1000000)(r:(Lib.decDigits v).length<=200):ay PP II false (az II 247 1002) 17 (Ix b (au v) v (G6 v) (false,M (au v)-1)) (Ds b (au v) v (Lib.decDigits v)):=
 ay.of (ι:=Bool×Int) fU [KH,xz,bt] (aX PP II []) 1000 17 (λp=> -1<=p.2/\p.2<M (au v)/\(p.1=false->p.2=M (au v)-1)/\(p.1=true->p.2<M (au v)-1)) (Ix b (au v) v (G6 v)) (λ_=>Ds b (au v) v (Lib.decDigits v)) (λp=>(p.2+1).toNat) (λp=>(true,p.2-1)) (false,M (au v)-1) A
  ⟨Y,O,λ_=>rfl,λh=>zE⟩ λp s=>by
  obtain⟨m,j⟩:=p;obtain⟨t,g,h3,h4⟩:=s;change -1<=j at t;change j<M (au v)at g;by_cases o:0<=j
  ·obtain⟨n,rfl⟩:∃n:Nat,j=M n:=⟨j.toNat,(q_ o).symm⟩;have u:(n:Int)<(au v:Int):=g;have a:(a_ (0<=M n)&&a_ (M n<M (au v)))=true:=pR o g;have c:aJ g_ (aU v n)=true:=by have:=ug v n;exact ai (by show _<=M (bH v n);omega) (by show M (bH v n)<=_;omega)
   have d:aJ g_ (M (au v)-1)=true:=ai O Y;have f:aJ g_ (M n-1)=true:=ai O Y;obtain⟨w,i,x⟩:=uv (l7 v n);have hl:(Lib.itoa (aU v n)).length<=4:=by rw[show Lib.itoa (aU v n)=_ from uw _];exact i
   have q:(-1<=M n-1/\M n-1<M (au v)/\(true=false->M n-1=M (au v)-1)/\(true=true->M n-1<M (au v)-1))/\(M n-1+1).toNat<(M n+1).toNat/\(Ds b (au v) v (Lib.decDigits v)).pick=(Ds b (au v) v (Lib.decDigits v)).pick :=Y
   cases m with
   |false=>
    have k:n+1=au v:=by have:=h3 A;change (n:Int)=(au v:Int)-1 at this;omega
    refine(Iy b (au v) v (G6 v) (Lib.decDigits v) (M n) _ A A A).mpr ?_;rw[show c_ (M n)=n from rfl]
    with_reducible refine aaz (λ_=>ZF a (ZF c (ZF d (aaz (λh=>?_) λ_=>?_)))) (λh=>?_)
    grind
    ·have e:=Q2 k;exact ZF Y (ZF f (aaY e ⟨rfl,rfl,aan A ⟨dG _ _,aan (by rw[e]) ⟨rfl,aan A ⟨dG _ _,aag A q⟩⟩⟩⟩))
    grind
   |true=>
    have k:n+1<au v:=by have:=h4 A;change (n:Int)<(au v:Int)-1 at this;omega
    refine(y7 b (au v) v (G6 v) (Lib.decDigits v) (M n) _ A A A A A).mpr ?_;rw[show c_ (M n)=n from rfl];have e:=Vg k;have H:=KJ r (M n);have y:(nU (c_ (4-M (Lib.itoa (aU v n)).length))).length<=4:=by show(i_ _ _).length<=4;rw[List.length_replicate];show c_ (4-((Lib.itoa (aU v n)).length:Int))<=4;omega
    have C:(e_ (nU (c_ (4-M (Lib.itoa (aU v n)).length))) (Lib.itoa (aU v n))).length<=8:=by rw[List.append_eq,h_];omega
    with_reducible refine aaz (λ_=>ZF a (ZF c (ZF d (aaz (λ_=>?_) λh=>?_)))) (λh=>?_)
    ·have D:0<=(nU (c_ (4-M (Lib.itoa (aU v n)).length))).length:=D_ _;refine ZF (ai Y Y) (ZF Y (ZF Y (ZF ?_ (ZF f (aaY e ⟨rfl,rfl,aan A ⟨dG _ _,aan ?_ ⟨rfl,aan A ⟨dG _ _,aag A q⟩⟩⟩⟩)))))
     grind
     ·rw[<-e];simp
    all_goals grind
  ·have l:j= -1:=by omega
   have E:G6 v j=Lib.decDigits v:=by rw[l];show Lib.decDigits (v/10000^0)=_;rw[A_,E_]
   cases m with
   |false=>grind
   |true=>
    refine(y7 b (au v) v (G6 v) (Lib.decDigits v) j _ A A A A A).mpr ?_;rw[E]
    with_reducible refine aaz (λh=>?_) (λ_=>?_)
    grind
    ·exact aaY A ⟨rfl,rfl,aan A ⟨dG _ _,aan A ⟨rfl,aan A ⟨dG _ _,trivial⟩⟩⟩⟩
def Dt(b:Bool)(v:Nat):List UInt8:=bif y_ v 0 then [48]else bif b then 45::Lib.decDigits v else Lib.decDigits v
def Vh{b:Bool}{v:Nat}(d:au v<=1000000)(f:(Lib.decDigits v).length<=200):af PP II 191 [.agg [.bool b,k8 v]] HP (.ret (.bM [.str (Dt b v),.int g_ 0]) HP):=by
 refine lP (T:=[(1002,17,Ix b (au v) v (G6 v) (false,M (au v)-1),Ds b (au v) v (Lib.decDigits v))]) ((Vf b (au v) v (G6 v) (Lib.decDigits v) _).mpr ?_);have g:=Lib.nDigits_pos v;rw[<-Lib.decDigits_length]at g
 with_reducible refine aaz (λh=>?_) (λh=>ZF ?_ ⟨?_,aH.same _,aH.same _,aan A ⟨dG _ _,rfl,aan A ⟨dG _ _,aag A (ZF ?_ (ZF ?_ (ZF ?_ (ZF ?_ (aaz (λj=>?_) (λ_=>aaz (λc=>ZF ?_ ?_) (λc=>?_)))))))⟩⟩⟩)
 ·have h:=py h;have i:au v=0:=Int.ofNat.inj h;have a:v=0:=by have:=iX v;rw[i]at this;simpa using this
  subst a;exactλσ=>⟨rfl,⟨rfl,rfl⟩,trivial⟩
 ·exact ai Y Y
 ·have h:=of_decide_eq_false h;have h :¬ (au v:Int)=0:=h;exact MZ O d f
 grind
 ·simp
 ·simp
 grind
 grind
 grind
 all_goals
  have h:=of_decide_eq_false h;have a:y_ v 0=false:=by rw[Bool.eq_false_iff];intro e;have:=dV e;subst this;exact h (by rw[hZ];rfl)
  subst c;intro σ;refine⟨?_,⟨rfl,rfl⟩,trivial⟩;show _=Dt _ v;unfold Dt;rw[a];rfl
def Fp{k f}(h:dy k f=true)(a:k=au (numOf k f)):H_ (λl=>l) (.ae k 1 f) (k8 (numOf k f)):=⟨a,rfl,(kf h).2.2⟩
def fq(s:List UInt8):List UInt8:=Lib.trimPrefix s [45]
def Q3(s):af PP II 240 [.str s,.str [45]] (f_ 12) (.ret (.str (fq s)) (f_ 12)):=
 af.qZ zA λc ρ w vs hG d h=>by
  obtain⟨u,us,rfl,a,f,g,rfl,b,rfl⟩:=d;have a:u= .string ⟨s.toArray⟩:=a;have b:f= .string ⟨#[45]⟩:=b;subst a b;refine(Go.Proofs.Any.strings_TrimPrefix Go.Proofs.Tryz.y6 ⟨s.toArray⟩ ⟨#[45]⟩ w).mono ?_
  rintro e w' ⟨rfl,rfl⟩
  exact⟨_,rfl,rfl,RowKit.Below.refl _ _⟩
def Iz:ax PP II:=ax.pure 240
 (λX args a=>match args with
  |[.str s,.str [45]]=>a (.str (fq s))
  |_=>X.fail)
 λX sem hX args a h=>by
  split at h
  ·exact⟨_,h,λ_=>rfl,λ_=>rfl,Q3 _⟩
  ·exact zR
def KL(s:List UInt8):Int:=M (x_ (s.getD 0 0))
def IA(s)(Q):(kb [Iz,QZ] [] 205 [.str s] Q)=(ak (m_ (fq s) []) (Q (o_ false)) (ak (a_ (M (z (fq s))>200)) (Q (o_ false)) (B (l_ (z (fq s)) 1000000) (ak (!List.beq (BP (fq s)) []) (Q (o_ false)) (ak (m_ s [48]) (Q (o_ true)) (B (a_ (0<M (z (fq s)))) (Q (o_ !decide (M (x_ (Option.getD (List.get?Internal (fq s) 0) 0))=48))))))))):=U
def ij(s:List UInt8):Bool:=match m_ (fq s) []with
 |true=>false
 |false=>match a_ (M (fq s).length>200)with
  |true=>false
  |false=>match !List.beq (BP (fq s)) []with
   |true=>false
   |false=>match m_ s [48]with
    |true=>true
    |false=>!decide (KL (fq s)=48)
def y8(s):af PP II 205 [.str s] (f_ 12) (.ret (.bool (ij s)) (f_ 12)):=by
 refine bQ (ks:=[Iz,QZ]) (T:=[]) (λ_=>rfl) ((IA s _).mpr ?_);unfold ij
 with_reducible refine aaz (λh=>?_) λh=>aaz (λa=>?_) λa=>ZF ?_ (aaz (λh3=>?_) λh3=>aaz (λh4=>?_) λh4=>ZF ?_ ?_)
 ·rw[h]
 ·rw[h,a]
 ·have a:=of_decide_eq_false a;have a :¬ ((fq s).length:Int)>200:=a;exact il O
 ·rw[h,a,h3]
 ·have h4:s.beq [48]=true:=h4;rw[h,a,h3,h4]
 ·refine bK ?_;cases ht:fq s with
  |nil=>rw[ht]at h;cases h
  |cons c r=>simp
 ·have h4:s.beq [48]=false:=h4;rw[h,a,h3,h4];rfl
def y9:ax PP II:=ax.pure 205
 (λX args a=>match args with
  |[.str s]=>a (.bool (ij s))
  |_=>X.fail)
 λX sem hX args a h=>by
  split at h
  ·exact⟨_,h,λ_=>rfl,λ_=>rfl,y8 _⟩
  ·exact zR
def IB(neg:Bool)(D:Nat->List UInt8)(W:Nat->Int)(i:Bool×Nat):St:=match i.1 with
 |false=>{t:=d_ [(2,.ptr 12 0 0 0),(3,.str (D 0)),(4,.ptr 13 0 0 0)],nt:=44,H:={n:=14,t:=d_ [(12,.cells [.bool false,.aD] (.ty 267)),(13,.cells [.bool neg,.aD] (.ty 267))]},df:=[]}
 |true=>{t:=d_ [(2,.ptr 12 0 0 0),(3,.str (D i.2)),(4,.ptr 13 0 0 0)],nt:=44,H:={n:=15,t:=d_ [(12,.cells [.bool false,.aD] (.ty 267)),(13,.cells [.bool neg,.own 14 i.2 1] (.ty 267)),(14,.rows i.2 1 (ah W) (.ty 3))]},df:=[]}
def Du(neg:Bool)(W:Nat->Int)(L:Nat):GE:=.one (.x 0 {t:=d_ [(2,.ptr 12 0 0 0),(4,.ptr 13 0 0 0)],nt:=44,H:={n:=15,t:=d_ [(12,.cells [.bool false,.aD] (.ty 267)),(13,.cells [.bool neg,.own 14 L 1] (.ty 267)),(14,.rows L 1 (ah W) (.ty 3))]},df:=[]})
def Fq(neg)(D)(W)(L)(Q){a}(c:a=(if M (z (D 0))-4>0 then M (z (D 0))-4 else 0)){b}(d:b=(k_ (c_ (M (z (D 0)))-a.toNat) (j_ a.toNat (D 0)))):(kr [KI] [] 224 3003 14 (IB neg D W) (λ_=>Du neg W L) (λi=>(true,i.2+1)) Q (false,0))=(ak (a_ (M (z (D 0))>0)) (B (aJ g_ (M (z (D 0))-4)) (B (a_ (0<=if M (z (D 0))-4>0 then M (z (D 0))-4 else 0)&&a_ (a<=M (z (D 0)))&&a_ (M (z (D 0))<=M (z (D 0)))) (B (jM b&&l_ (z b) 1000000) (B (a_ (0<=if M (z (D 0))-4>0 then M (z (D 0))-4 else 0)&&a_ (a<=M (z (D 0)))) (an 1 (bY [p_ g_ (cz b)] 1) (ah W)/\neg=neg/\false=false/\eX (k_ (a.toNat-0) (j_ 0 (D 0))) (D 1) Q))))) (bh L 0 (neg=neg/\bh L 0 (false=false/\True)))):=by subst_vars;kernel_rfl
def Fs(neg)(D)(W)(L i)(Q){a}(d:a=(if M (z (D i))-4>0 then M (z (D i))-4 else 0)){b}(e:b=(k_ (c_ (M (z (D i)))-a.toNat) (j_ a.toNat (D i)))):(kr [KI] [] 224 3003 14 (IB neg D W) (λ_=>Du neg W L) (λi=>(true,i.2+1)) Q (true,i))=(ak (a_ (M (z (D i))>0)) (B (aJ g_ (M (z (D i))-4)) (B (a_ (0<=if M (z (D i))-4>0 then M (z (D i))-4 else 0)&&a_ (a<=M (z (D i)))&&a_ (M (z (D i))<=M (z (D i)))) (B (jM b&&l_ (z b) 1000000) (B (a_ (i<=i)&&true&&true&&a_ ((i+1)*8<=140737488355328)&&true) (B (a_ (0<=if M (z (D i))-4>0 then M (z (D i))-4 else 0)&&a_ (a<=M (z (D i)))) (zyN (i+1) (an (i+1) (λc=>bif Nat.blt c i then ah W c else k_ 1 (j_ (0+(c-i)*1) [p_ g_ (cz b)])) (ah W)/\neg=neg/\zyN (i+1) (false=false/\eX (k_ (a.toNat-0) (j_ 0 (D i))) (D (i+1)) Q)))))))) (bh i L (zyR i (ah W) (neg=neg/\bh i L (false=false/\True))))):=by subst_vars;kernel_rfl
def Q4(s)(neg)(D)(W)(L)(Q):(kb [Iz,wv] [(3003,14,IB neg D W (false,0),Du neg W L)] 224 [.str s] Q)=(ay PP II false (az II 224 3003) 14 (IB neg D W (false,0)) (Du neg W L)/\a_ (M (z (fq s))<M (z s))=neg/\false=false/\eX (fq s) (D 0) (B ((List.all (List.range.loop L []) λi=>true)&&a_ (L<=L)) (B (dy L (ah W)&&l_ L 1000000) (Q (AV.agg [o_ neg,AV.ae (au (numOf L (ah W))) 1 (aI (numOf L (ah W)))]))))):=U
def asByte(d:Nat):UInt8:=b_ (48+d)
def IC(acc:Nat)(ds:List Nat):Nat:=ds.foldl (λa d=>a*10+d) acc
def sb{d}(h:d<10){p:Nat->Prop}(a:p 0)(b:p 1)(c:p 2)(h3:p 3)(h4:p 4)(e:p 5)(f:p 6)(g:p 7)(i:p 8)(j:p 9):p d:=by
 rcases(O:d=0∨d=1∨d=2∨d=3∨d=4∨d=5∨d=6∨d=7∨d=8∨d=9)with rfl|rfl|rfl|rfl|rfl|rfl|rfl|rfl|rfl|rfl<;>assumption
def xb{d}(h:d<10):Lib.digitVal (asByte d)=Option.some d:=sb h (p:=λd=>Lib.digitVal (asByte d)=Option.some d) A A A A A A A A A A
def wC{d}(h:d<10):(asByte d==45)=false/\(asByte d==43)=false:=sb h (p:=λd=>(asByte d==45)=false/\(asByte d==43)=false) ⟨rfl,rfl⟩ ⟨rfl,rfl⟩ ⟨rfl,rfl⟩ ⟨rfl,rfl⟩ ⟨rfl,rfl⟩ ⟨rfl,rfl⟩ ⟨rfl,rfl⟩ ⟨rfl,rfl⟩ ⟨rfl,rfl⟩ ⟨rfl,rfl⟩
def pX:∀(ds)(acc),(∀d∈ds,d<10)->Lib.decFrom acc (ds.map asByte)=Option.some (IC acc ds)
 |[],_,_=>rfl
 |d::ds,acc,h=>by simp only[u_,Lib.decFrom,xb (h d r_)];exact pX ds _ (by simp_all)
def BR{ds}(a:ds≠[])(hl:ds.length<=18)(h:∀d∈ds,d<10):Lib.atoiAll (ds.map asByte)= .ok ((IC 0 ds:Nat):Int):=by
 rw[Lib.atoiAll_short _ (by simpa using hl)];cases ds with
 |nil=>exact absurd A a
 |cons d ds=>
  obtain⟨b,c⟩:=wC (h d r_);have e:Lib.decNat (asByte d::ds.map asByte)=Option.some (IC 0 (d::ds)):=by unfold Lib.decNat;exact pX (d::ds) 0 h
  simp only[u_,Lib.atoi,b,c,lu,if_false,e];rfl
def ux(x):∃ds,Lib.decDigits x=ds.map asByte/\ds≠[]/\(∀d∈ds,d<10)/\IC 0 ds=x:=by
 induction x using t_ with
 |_ x a=>
  by_cases h:x<10
  ·exact⟨[x],by rw[Lib.decDigits_one h];rfl,zA,by simpa using h,by simp[IC]⟩
  ·obtain⟨ds,b,c,h3,h4⟩:=a (x/10) O;refine⟨ds++[x%10],?_,zA,?_,?_⟩
   ·rw[Lib.decDigits,dif_neg h,b,List.map_append];rfl
   grind
   ·unfold IC at h4⊢
    grind
def BS{s v}(h:Lib.atoiAll s= .ok v):jM s=true/\cz s=v:=by
 unfold jM cz
 grind
def Q5{x}(hx:(Lib.decDigits x).length<=18):jM (Lib.decDigits x)=true/\cz (Lib.decDigits x)=(x:Int):=by
 obtain⟨ds,a,b,h3,h4⟩:=ux x;rw[a]at hx⊢;have:=BR b (by simpa using hx) h3;rw[h4]at this;exact BS this
def Yt(l:Nat):List UInt8:=[b_ (48+l/1000),b_ (48+l/100%10),b_ (48+l/10%10),b_ (48+l%10)]
def Q6{l}(hl:l<10000):jM (Yt l)=true/\cz (Yt l)=(l:Int):=by
 have:=BR (ds:=[l/1000,l/100%10,l/10%10,l%10]) zA zA (by
  grind)
 have e:IC 0 [l/1000,l/100%10,l/10%10,l%10]=l:=by show(((0*10+l/1000)*10+l/100%10)*10+l/10%10)*10+l%10=l;omega
 rw[e]at this;exact BS this
def pD(v i:Nat):List UInt8:=if v/10000^i=0/\0<i then []else Lib.decDigits (v/10000^i)
def pL(v:Nat):Nat:=if v=0 then 1 else au v
def Q7(v):0<pL v:=by
 unfold pL;split
 ·omega
 ·rename_i h;rw[yD h];omega
def Yu{v}:pD v (pL v)=[]:=by
 have h:=Q7 v;have a:v/10000^pL v=0:=by
  unfold pL;split
  ·omega
  ·exact s_ (iX v)
 unfold pD
 grind
def KM{v i:Nat}(hi:i<pL v):0<(pD v i).length/\jM ((pD v i).drop ((pD v i).length-4))=true/\cz ((pD v i).drop ((pD v i).length-4))=aU v i/\(pD v i).take ((pD v i).length-4)=pD v (i+1):=by
 have hx:pD v i=Lib.decDigits (v/10000^i):=by
  unfold pD;rw[if_neg]
  rintro⟨b,d⟩
  unfold pL at hi;split at hi
  ·omega
  ·rcases Nat.div_eq_zero_iff.1 b with h|h
   grind
   ·have:=fw _ _ h;omega
 have f:v/10000^(i+1)=v/10000^i/10000:=by rw[Nat.pow_succ,Nat.div_div_eq_div_mul]
 have hl:aU v i=((v/10000^i%10000:Nat):Int):=rfl;have g:pD v (i+1)=if v/10000^i/10000=0 then []else Lib.decDigits (v/10000^i/10000):=by
  unfold pD;rw[f];by_cases h:v/10000^i/10000=0
  ·simp
  ·rw[if_neg (λe=>h e.1),if_neg h]
 rw[hx,g,hl];generalize v/10000^i=x;by_cases h:x<10000
 ·obtain⟨b,d,h3⟩:=uv h;have e:(Lib.decDigits x).length-4=0:=O;obtain⟨a1,a2⟩:=Q5 (x:=x) O;rw[e,n_,List.take_zero,if_pos O,Nat.mod_eq_of_lt h];exact⟨h3,a1,a2,rfl⟩
 ·have a:=Nat.mod_lt x (O:0<10000);have c:Lib.decDigits x=Lib.decDigits (x/10000)++Yt (x%10000):=by
   have:=BQ (x:=x/10000) (l:=x%10000) O a;rw[(uv a).1,show x%10000+10000*(x/10000)=x by omega]at this;exact this
  have j:(Lib.decDigits x).length-4=(Lib.decDigits (x/10000)).length:=by rw[c,h_];show _+4-4=_;omega
  obtain⟨a1,a2⟩:=Q6 a;rw[j,c,List.drop_left,List.take_left,if_neg O];exact⟨by rw[h_];show 0<_+4;omega,a1,a2,rfl⟩
def KN(n):(if M n-4>0 then M n-4 else 0)=M (n-4):=by
 grind
def M0(v i)(a:(Lib.decDigits v).length<=200):(pD v i).length<=200:=by
 unfold pD;split;simp
 ·have:=KJ a (M i-1);unfold G6 at this
  grind
def ID{neg v}(q:(Lib.decDigits v).length<=200)(w:pL v<=1000000):ay PP II false (az II 224 3003) 14 (IB neg (pD v) (aU v) (false,0)) (Du neg (aU v) (pL v)):=
 ay.of (ι:=Bool×Nat) fU [KI] (aX PP II []) 1000 14 (λp=>p.2<=pL v/\(p.1=false->p.2=0)) (IB neg (pD v) (aU v)) (λ_=>Du neg (aU v) (pL v)) (λp=>pL v-p.2) (λp=>(true,p.2+1)) (false,0) A
  ⟨D_ _,λ_=>rfl⟩ λp r=>by
  obtain⟨b,i⟩:=p;obtain⟨t,u⟩:=r;change i<=pL v at t;have k:=M0 v i q;have l:∀(s:List UInt8),c_ (M s.length)-c_ (M (s.length-4))=s.length-(s.length-4):=λ_=>rfl
  have c:∀(s:List UInt8),k_ (s.length-(s.length-4)) (j_ (s.length-4) s)=j_ (s.length-4) s:=λs=>List.take_of_length_le zA
  have d:∀n:Nat,c_ (M n)=n:=λ_=>rfl
  have a:i<pL v->(i+1<=pL v/\(true=false->i+1=0))/\pL v-(i+1)<pL v-i/\(Du neg (aU v) (pL v)).pick=(Du neg (aU v) (pL v)).pick:=λhi=>Y
  have r1:aJ g_ (M (pD v i).length-4)=true:=ai Y Y;have m:(a_ (0<=M ((pD v i).length-4))&&a_ (M ((pD v i).length-4)<=M (pD v i).length))=true:=zA;have o:(a_ (0<=M ((pD v i).length-4))&&a_ (M ((pD v i).length-4)<=M (pD v i).length)&&a_ (M (pD v i).length<=M (pD v i).length))=true:=zA;cases b with
  |false=>
   have f:i=0:=u A;subst f;have hi:=Q7 v;obtain⟨k1,k2,g,j⟩:=KM hi;refine(Fq neg (pD v) (aU v) (pL v) _ A A).mpr ?_;rw[KN,l,d ((pD v 0).length-4),c,B_,n_]
   with_reducible refine aaz (λ_=>ZF r1 (ZF o (ZF ?_ (ZF m ⟨?_,rfl,rfl,aaY j (a hi)⟩)))) (λh=>?_)
   ·rw[k2,Bool.true_and];exact il Y
   ·intro x hx σ;have:x=0:=O;subst this;rw[g];exact⟨⟨rfl,rfl⟩,trivial⟩
   grind
  |true=>
   refine(Fs neg (pD v) (aU v) (pL v) i _ A A).mpr ?_;rw[KN,l,d ((pD v i).length-4),c,B_,n_];by_cases hi:i<pL v
   ·obtain⟨k1,k2,g,j⟩:=KM hi;rw[g]
    with_reducible refine aaz (λ_=>ZF r1 (ZF o (ZF ?_ (ZF ?_ (ZF m (aan A ⟨kS A,rfl,aan A ⟨rfl,aaY j (a hi)⟩⟩)))))) (λh=>?_)
    ·rw[k2,Bool.true_and];exact il Y
    all_goals grind
   ·have e:i=pL v:=by omega
    subst e
    with_reducible refine aaz (λh=>?_) (λ_=>aan A ⟨dU _ _,rfl,aan A ⟨rfl,trivial⟩⟩)
    have h:=py h;rw[Yu]at h
    grind
def aak(v):au v<=pL v:=by
 unfold pL;split
 ·rename_i h;rw[h,hZ];omega
 omega
def Q8{s v}(a:fq s=Lib.decDigits v)(b:(Lib.decDigits v).length<=200)(c:pL v<=1000000):af PP II 224 [.str s] (f_ 12) (.ret (.agg [.bool (a_ (M (fq s).length<M s.length)),k8 v]) (f_ 12)):=by
 refine y5 (T:=[(3003,14,IB (a_ (M (fq s).length<M s.length)) (pD v) (aU v) (false,0),Du (a_ (M (fq s).length<M s.length)) (aU v) (pL v))]) ((Q4 s _ (pD v) (aU v) (pL v) _).mpr ?_);have d:pD v 0=Lib.decDigits v:=by unfold pD;rw[if_neg O,A_,E_]
 have e:numOf (pL v) (ah (aU v))=v:=mw (aak v);rw[e];exact⟨ID b c,rfl,rfl,aaY (a.trans d.symm) (ZF zA (ZF (eJ (cO _ v) (by simp_all)) λσ=>⟨rfl,oQ σ v,trivial⟩))⟩
def Q9(s:List UInt8):Nat:=(Lib.decNat s).getD 0
def M1(v):Q9 (Lib.decDigits v)=v:=by
 obtain⟨ds,a,b,h3,h4⟩:=ux v;unfold Q9 Lib.decNat;rw[a,pX ds 0 h3,h4];simp_all
def aw(s:List UInt8):Nat:=Q9 (fq s)
def eY(s:List UInt8):Bool:=m_ (fq s) (Lib.decDigits (aw s))&&l_ (fq s).length 200
def qo(s:List UInt8):Bool:=a_ (M (fq s).length<M s.length)
def zc{a b:List UInt8}(h:m_ a b=true):a=b:=eq_of_beq h
def wD{v}(a:(Lib.decDigits v).length<=200):au v<=200:=by
 refine fw _ _ ?_;rw[Lib.decDigits_length]at a;have b:=Lib.lt_pow_nDigits v;refine Nat.lt_of_lt_of_le b (z_ (Nat.pow_le_pow_right O a) O)
def aal{v}(a:(Lib.decDigits v).length<=200):pL v<=1000000:=by
 have:=wD a;unfold pL;split<;>omega
def uy{s}(h:eY s=true):fq s=Lib.decDigits (aw s)/\(Lib.decDigits (aw s)).length<=200:=by
 unfold eY at h;simp only[ba]at h;have e:=zc h.1;simp_all
def IE:ax PP II:=ax.pure 224
 (λX args a=>match args with
  |[.str s]=>X.ag (eY s) (a (.agg [.bool (qo s),k8 (aw s)]))
  |_=>X.fail)
 λX sem hX args a h=>by
  split at h
  ·rename_i s;obtain⟨c,d⟩:=hX.ag _ _ h;obtain⟨e,b⟩:=uy c;exact⟨_,d,λ_=>rfl,λ_=>rfl,Q8 e b (aal b)⟩
  ·exact zR
end
end Go.Sx
