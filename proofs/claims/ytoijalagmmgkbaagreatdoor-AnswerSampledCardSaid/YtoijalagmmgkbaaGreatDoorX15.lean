/- Lemmas, part 15. -/
import Derived.Sort.Grow
import Derived.Test.YtoijalagmmgkbaaGreatDoorX13
import Derived.Test.YtoijalagmmgkbaaGreatDoorX14
import Derived.Lib.SmallJoins
import Derived.Lib.ItoaMem
set_option linter.all false
set_option linter.defProp false
set_option maxRecDepth 1000000
namespace Go.Sx
open Go
open Int renaming ofNat->M,toNat->d_,toNat_of_nonneg->x_
open List renaming length->z,append->e_,beq->j_,length_append->k_,replicate->l_,drop->m_,take->o_,mem_cons_self->p_,drop_zero->t_,map_cons->v_
open Decidable renaming decide->a_
open UInt8 renaming ofNat->b_,toNat->C_
open Tr renaming ofList->c_
open Go.IntKind renaming i64->f_
open AH renaming blank->g_
open AV renaming bool->h_,int->n_,str->q_,qP->r_,agg->u_,le->J_,aw->L_
open Nat renaming ble->i_,strongRecOn->s_,beq->w_,blt->z_,div_eq_of_lt->A_,le_trans->D_,pow_zero->E_,sub_zero->F_,zero_le->H_,div_one->I_
open Bool renaming eq_false_iff->y_,true_and->B_
noncomputable section
def dz:List AV:=Lib.pow10Tab.map λa=> .int .u64 a
def HP:AH:={n:=12,t:=c_ [(6,.cells dz (.ex 20))]}
def Ey(cs:List AV)(m:Nat):eT->Bool
 | .cells ds (.ex k)=>py ds cs&&w_ k m
 |_=>false
def sY{cs m b}(h:Ey cs m b=true):b= .cells cs (.ex m):=by
 unfold Ey at h
 split at h
 ·simp only[bf]at h
  rw[qE _ _ h.1,dE h.2]
 ·cases h
def LS(H:AH):Bool:=Ey dz 20 (H.get 6)
def Ap(i):HP.get i=if i=6 then .cells dz (.ex 20)else .dead:=by
 show AH.get {n:=12,t:=c_ [(6,_)]} i=_
 simp only[AH.get,c_,Tr.bH,Tr.qV]
 grind
def nN(σ):bt.bD σ dz=dz:=by
 rfl
def pz(σ):bt.le σ dz dz:=by
 unfold dz
 generalize Lib.pow10Tab=l
 induction l with
 |nil=>trivial
 |cons a l b=>exact⟨⟨rfl,rfl⟩,b⟩
def af.l8{f args a H}(h:af PP II f args HP (.ret a HP))(d:LS H=true)(b:∀σ,bt.bD σ args=args)(ha:∀σ,a.bD σ=a):af PP II f args H (.ret a H):=by
 refine af.SE (I:=II) (H0:=HP) h A (λi hi=>?_) (λi hi c=>?_) b ha
 ·have hi:12<=i:=hi
  rw[Ap,if_neg O]
 ·by_cases e:i=6
  ·subst e
   rw[sY d]
   refine⟨rfl,λσ=>?_⟩
   rfl
  ·rw[Ap,if_neg e]at c;exact absurd A c
def aC.l8(f:FuncId)(spec:{R:Type}->RI R->List AV->(AV->R)->R)
  (ok:∀{R:Type}(X:RI R)(sem:R->Prop),X.Ok sem->∀args c,sem (spec X args c)->∃a,sem (c a)/\(∀σ,a.bD σ=a)/\(∀σ,bt.bD σ args=args)/\af PP II f args HP (.ret a HP)):aC PP II where
 f:=f
 spec X args H c _:=jK X 100000 args H λb H'=>X.bq (LS H') (spec X b λa=>c a H')
 ok X sem hX args H c kp h:=by
  obtain⟨b,H',d,i⟩:=gC hX _ _ _ _ h
  obtain⟨j,d⟩:=hX.bq _ _ d
  obtain⟨a,k1,k2,l,m⟩:=ok X sem hX _ _ d
  exact⟨.ret a H',k1,(m.l8 j l k2).nI i⟩
abbrev kp(ks:List (aC PP II))(T:lI)(f:FuncId)(args:List AV)(Q:AV->Prop):Prop :=
 jE ks (mG PP II T) 1000 f args HP (λa H=>qC RI.jY 100000 a H λa' H2=>aa (i_ 12 H2.n&&LS H2) (Q a')) (λ_ _=>False)
def kz{ks:List (aC PP II)}{T:lI}{f:FuncId}{args:List AV}{a':AV}(h:kp ks T f args (λa=> ∀σ,J_ σ a a')):af PP II f args HP (.ret a' HP):=by
 obtain⟨o,b,c⟩:=fJ Hs ks (bm PP II T) 1000 f args HP _ _ h
 cases o with
 |ret a H1=>
  obtain⟨x,H2,k1,k2⟩:=lm RI.dJ _ _ _ _ b
  obtain⟨k0,k1⟩:=Zk k1
  have k1:∀σ,J_ σ x a':=k1
  simp only[bf]at k0
  refine(c.vW k2).le (ky.of [] (im.of (by rfl) A A A k0.1 (gS.2 λl hl=>?_)) (k1 _))
  rw[Ap]
  by_cases e:l=6
  ·subst e
   rw[if_pos A]
   have d:sig HP.n [] H2.n 6=6:=rfl
   have:=jX k0.1
   show if sig HP.n [] H2.n 6<H2.n then eT.le (sig HP.n [] H2.n) (H2.get (sig HP.n [] H2.n 6)) (eT.cells dz (.ex 20))else _
   rw[d,if_pos O,sY k0.2]
   exact⟨pz _,rfl⟩
  ·rw[if_neg e];trivial
 |qt a H1=>exact b.elim
def IC{c:fw}{ρ:Env}{w:World}(h:Rel c ρ HP w)(hG:c.G=II.G):Lib.TabIs PP w "internal/strconv.uint64pow10" .u64 Lib.pow10Tab:=by
 have d:=h.dF 6
 rw[Ap,if_pos A]at d
 obtain⟨N,f⟩:=h.fp 6 (by rw[hG];show 6<12;omega)
 rw[f]at d
 rcases d with⟨_,d⟩|⟨b,p,vs,rest,el,fr,h1,q,g,e,i,_⟩
 ·cases d
 ·cases h1
  have hl:N=20:=i.ex 20 A
  have j:vs.length=20:=by rw[<-e.length_eq];rfl
  have k:rest=[]:=by
   rw[k_]at g
   exact ZD
  subst k
  have m:vs=Lib.pow10Tab.map λa=>Value.int .u64 a:=by
   have:∀(l:List Int)(vs:List Value),aU ρ (l.map λa=>n_ .u64 a) vs->vs=l.map λa=>Value.int .u64 a:=by
    intro l
    induction l with
    |nil=>intro vs h;exact h
    |cons a l n=>
     intro vs h
     obtain⟨u,us,rfl,e1,o⟩:=h
     rw[n us o]
     have e1:u= .int .u64 a:=e1
     rw[e1];rfl
   exact this _ _ e
  unfold Lib.TabIs World.var?
  rw[show PP.globalNamed "internal/strconv.uint64pow10" =Option.some (ux 6)from Go.Proofs.Tryz.Ca.m17]
  grind
def Ez(w)(k)(os):RowKit.Below w.heap.size w (Sort.grow (w.drewN k) os):=
 ⟨rfl,rfl,rfl,zA,λi hi=>by show(w.heap++os)[i]? =_;grind⟩
def GI{n}(a : -9223372036854775808<=n)(b:n<=9223372036854775807):af PP II 164 [.int f_ n] HP (.ret (.str (Lib.itoa n)) HP):=
 af.oB zA λc ρ w vs hG d f=>by
  obtain⟨u,us,rfl,e1,rfl⟩:=d
  have e1:u= .int f_ n:=e1
  subst e1
  refine(Go.Proofs.Any.strconv_Itoa Go.Proofs.Tryz.Ca n a b w (IC f hG)).mono ?_
  rintro e w' ⟨rfl,k,os,rfl⟩
  exact⟨_,rfl,rfl,Ez w k os⟩
def Cb:aC PP II:=aC.l8 164
 (λX args b=>match args with
  |[.int f_ n]=>X.bq (aN f_ n) (b (.str (Lib.itoa n)))
  |_=>X.fail)
 λX sem hX args b h=>by
  split at h
  ·obtain⟨a,c⟩:=hX.bq _ _ h
   rw[nK]at a
   exact⟨_,c,λ_=>rfl,λ_=>rfl,GI a.1 a.2⟩
  ·exact zR
def iX(s:List UInt8):Bool:=match Lib.atoiAll s with| .ok _=>true|_=>false
def bl(s:List UInt8):Int:=match Lib.atoiAll s with| .ok v=>v|_=>0
def ID{s}(h:iX s=true):Lib.atoiAll s= .ok (bl s):=by
 unfold iX at h
 unfold bl
 grind
def P7{s}(h:iX s=true)(hl:s.length<=1000000):af PP II 131 [.str s] (g_ 12) (.ret (.qP [.int f_ (bl s),.nilIface]) (g_ 12)):=
 af.oB zA λc ρ w vs hG a b=>by
  obtain⟨u,us,rfl,e1,rfl⟩:=a
  have e1:u= .string ⟨s.toArray⟩:=e1
  subst e1
  refine(Go.Proofs.Any.strconv_Atoi_ok Go.Proofs.Tryz.LQ ⟨s.toArray⟩ (by show s.toArray.size<=_;simp;omega) (bl s) (ID h) w).mono ?_
  rintro e w' ⟨rfl,hw⟩
  refine⟨_,rfl,?_,?_⟩
  ·simp only[VR,aU];simp
  ·rcases hw with rfl|⟨t,rfl⟩
   ·exact RowKit.Below.refl _ _
   ·exact Joins.below_bytesWorld _ _ _ _ (dw _)
def Cc:aC PP II:=aC.pure 131
 (λX args a=>match args with
  |[.str s]=>X.bq (iX s&&i_ s.length 1000000) (a (.qP [.int f_ (bl s),.nilIface]))
  |_=>X.fail)
 λX sem hX args a h=>by
  split at h
  ·obtain⟨b,c⟩:=hX.bq _ _ h
   simp only[bf]at b
   exact⟨_,c,λ_=>rfl,λ_=>rfl,P7 b.1 ZD⟩
  ·exact zR
def qG:List UInt8:=[48,49,50,51,52,53,54,55,56,57]
def yH(s:List UInt8):List UInt8:=Lib.trimS s qG
def LU{s}(hl:s.length<=1000000):af PP II 211 [.str s,.str qG] (g_ 12) (.ret (.str (yH s)) (g_ 12)):=
 af.oB zA λc ρ w vs hG b g=>by
  obtain⟨u,us,rfl,e1,d,f,rfl,a,rfl⟩:=b
  have e1:u= .string ⟨s.toArray⟩:=e1
  have a:d= .string ⟨qG.toArray⟩:=a
  subst e1 a
  refine(Go.Proofs.Any.strings_Trim_laid Go.Proofs.Tryz.LR U ⟨s.toArray⟩ ⟨qG.toArray⟩ w (by show s.toArray.size<=_;simp;omega) zC (Go.Proofs.ascii_of_all zC)).mono ?_
  rintro e w' ⟨rfl,hw⟩
  exact⟨_,rfl,rfl,hw⟩
def EA:aC PP II:=aC.pure 211
 (λX args a=>match args with
  |[.str s,.str [48,49,50,51,52,53,54,55,56,57]]=>X.bq (i_ s.length 1000000) (a (.str (yH s)))
  |_=>X.fail)
 λX sem hX args a h=>by
  split at h
  ·obtain⟨c,b⟩:=hX.bq _ _ h
   exact⟨_,b,λ_=>rfl,λ_=>rfl,LU ZD⟩
  ·exact zR
def RJ(n:Nat):List UInt8:=l_ n 48
def LV:Go.Proofs.Builder.Extra PP Go.Proofs.Tryz.oC where
 sizeBuilder:=U
 liesBuilder:=U
 t5:=by rfl
 a5:=Go.Proofs.Tryz.isAgg5
 z5:=Go.Proofs.Tryz.sizeOf5
 v5:=Go.Proofs.Tryz.zeroValue5
 infoByte:=U
 cellsByte:=U
 sizeByte:=U
 neB5:=zC
def repeatL_one:∀n,Lib.repeatL [48] n=l_ n 48
 |0=>rfl
 |n+1=>by rw[Lib.repeatL,repeatL_one n];rfl
def TS{n:Nat}(hl:n<=1000000):af PP II 165 [.str [48],.int f_ n] (g_ 12) (.ret (.str (RJ n)) (g_ 12)):=
 af.oB zA λc ρ w vs hG b g=>by
  obtain⟨u,us,rfl,e1,d,f,rfl,a,rfl⟩:=b
  have e1:u= .string ⟨#[48]⟩:=e1
  have a:d= .int f_ n:=a
  subst e1 a
  refine(Go.Proofs.Any.strings_Repeat Go.Proofs.Tryz.Ex LV ⟨#[48]⟩ n w O (by show 1*n<=_;omega)).mono ?_
  rintro e w' ⟨rfl,hw⟩
  refine⟨_,rfl,?_,hw⟩
  show Value.string ⟨(Lib.repeatL [48] n).toArray⟩=_
  rw[repeatL_one];rfl
def uV:aC PP II:=aC.pure 165
 (λX args a=>match args with
  |[.str [48],.int f_ n]=>X.bq (a_ (0<=n)&&a_ (n<=1000000)) (a (.str (RJ n.toNat)))
  |_=>X.fail)
 λX sem hX args a h=>by
  split at h
  ·rename_i n
   obtain⟨b,c⟩:=hX.bq _ _ h
   simp only[bf,bn]at b
   refine⟨_,c,λ_=>rfl,λ_=>rfl,?_⟩
   have:=TS (n:=n.toNat) O
   rwa[x_ b.1]at this
  ·exact zR
def WD(b:Bool)(k v:Nat)(a:Option (List UInt8)):AH:=match a with
 |none=>{n:=17,t:=c_ [(6,.cells dz (.ex 20)),(12,.cells [.bool b,.ab k 1 (aG v)] (.ty 184)),(13,.cells [.nilPtr,.aw] (.ty 241)),(14,.cells [.ab k 1 (aG v)] (.ty 182)),(15,.tE),(16,.loop .ready none (c_ [(1,.ptr 12 0 0 0),(4,.ptr 13 0 0 0)]) 43 [16,17] (bg II 111) (bh II 111) 15)]}
 |some s=>{n:=18,t:=c_ [(6,.cells dz (.ex 20)),(12,.cells [.bool b,.ab k 1 (aG v)] (.ty 184)),(13,.cells [.ptr 13 0 0 0,.own 17 s.length 1] (.ty 241)),(14,.cells [.ab k 1 (aG v)] (.ty 182)),(15,.tE),(16,.loop .ready none (c_ [(1,.ptr 12 0 0 0),(4,.ptr 13 0 0 0)]) 43 [16,17] (bg II 111) (bh II 111) 15),(17,.str s (.ty 5))]}
def EB(b:Bool)(k v:Nat)(C:Int->List UInt8)(i:Bool×Int):St:={t:=c_ [(0,.yield 16),(1,.ptr 14 0 0 0),(3,.int f_ i.2)],nt:=19,H:=WD b k v (match i.1 with|false=>Option.none|true=>Option.some (C i.2)),df:=[]}
def Aq(b:Bool)(k v:Nat)(r:List UInt8):GE:=.one (.x 0 {t:=.e,nt:=19,H:=WD b k v (some r),df:=[]})
def EC(b)(k v)(C)(r)(j)(Q){a}(e:a=(Lib.itoa (aO v j.toNat))){c}(f:c=(RJ (d_ (4-M (z a))))){d}(g:d=(b=b/\zyN k (zyR k (aG v) (zyI (j-1) Q)))):(kr [Cb,uV,bU] [] 212 1002 17 (EB b k v C) (λ_=>Aq b k v r) (λi=>(true,i.2-1)) Q (false,j))=(ah (a_ (j>=0)) (aa (a_ (0<=j)&&a_ (j<M k)) (aa (aN f_ (aO v j.toNat)) (aa (aN f_ (M k-1)) (ah (a_ (j<M k-1)) (aa (aN f_ (4-M (z a))) (aa (a_ (0<=4-M (z a))&&a_ (4-M (z a)<=1000000)) (aa (a_ (z c+z a<=9223372036854775807)) (aa (a_ ((0+z (e_ c a))*1<=140737488355328)&&true) (aa (aN f_ (j-1)) (bI (e_ c a) (C (j-1)) (aT (bg II 111) (bg II 111)/\aT (bh II 111) (bh II 111)/\zyN k (zyR k (aG v) (ax (z (e_ c a)) (z (C (j-1))) d))))))))) (aa (a_ ((0+z a)*1<=140737488355328)&&true) (aa (aN f_ (j-1)) (bI a (C (j-1)) (aT (bg II 111) (bg II 111)/\aT (bh II 111) (bh II 111)/\zyN k (zyR k (aG v) (ax (z a) (z (C (j-1))) d)))))))))) (bI r [] (aT (bg II 111) (bg II 111)/\aT (bh II 111) (bh II 111)/\zyN k (zyR k (aG v) False)))):=by subst_vars;kernel_rfl
def wo(b)(k v)(C)(r)(j)(Q){a}(g:a=(Lib.itoa (aO v j.toNat))){c}(h:c=(RJ (d_ (4-M (z a))))){d}(l:d=(b=b/\zyN k (zyR k (aG v) (zyI (j-1) Q)))){e}(m:e=(a_ (z (C j)=z (C j))&&true)){f}(n:f=(z (C j)+z (e_ c a))):(kr [Cb,uV,bU] [] 212 1002 17 (EB b k v C) (λ_=>Aq b k v r) (λi=>(true,i.2-1)) Q (true,j))=(ah (a_ (j>=0)) (aa (a_ (0<=j)&&a_ (j<M k)) (aa (aN f_ (aO v j.toNat)) (aa (aN f_ (M k-1)) (ah (a_ (j<M k-1)) (aa (aN f_ (4-M (z a))) (aa (a_ (0<=4-M (z a))&&a_ (4-M (z a)<=1000000)) (aa (a_ (z c+z a<=9223372036854775807)) (aa (a_ (z (C j)<=z (C j))&&true&&true&&a_ (f*1<=140737488355328)&&e) (aa (aN f_ (j-1)) (bI (e_ (C j) (e_ c a)) (C (j-1)) (aT (bg II 111) (bg II 111)/\aT (bh II 111) (bh II 111)/\zyN k (zyR k (aG v) (ax f (z (C (j-1))) d))))))))) (aa (a_ (z (C j)<=z (C j))&&true&&true&&a_ ((z (C j)+z a)*1<=140737488355328)&&e) (aa (aN f_ (j-1)) (bI (e_ (C j) a) (C (j-1)) (aT (bg II 111) (bg II 111)/\aT (bh II 111) (bh II 111)/\zyN k (zyR k (aG v) (ax (z (C j)+z a) (z (C (j-1))) d)))))))))) (bI (C j) r (aT (bg II 111) (bg II 111)/\aT (bh II 111) (bh II 111)/\zyN k (zyR k (aG v) (ax (z (C j)) (z r) (b=b/\zyN k (zyR k (aG v) True))))))):=by subst_vars;kernel_rfl
def P8(b)(k v)(C)(r)(Q):(kp [Cb,uV,bU] [(1002,17,EB b k v C (false,M k-1),Aq b k v r)] 111 [.agg [.bool b,.ab k 1 (aG v)]] Q)=(ah (a_ (M k=0)) (Q (r_ [q_ [48],n_ f_ 0])) (aa (aN f_ (M k-1)) (eu PP II false (aD II 212 1002) 17 (EB b k v C (false,M k-1)) (Aq b k v r)/\aT (bg II 111) (bg II 111)/\aT (bh II 111) (bh II 111)/\zyN k (zyR k (aG v) (b=b/\zyN k (zyR k (aG v) (zyI (M k-1) (aa (a_ (0<z r)) (aa (a_ (z r=z r)&&true) (aa (a_ (M (z r)=M (z r))) (aa (a_ (d_ (M (z r))=z r)&&true&&true&&a_ (0<M (z r))&&a_ (M (z r)<=9223372036854775807)&&true) (ah (a_ (M (z r)>200)) (Q (r_ [q_ [],n_ f_ 30])) (ah b (aa (a_ (1+z r<=9223372036854775807)) (Q (r_ [q_ (45::r),n_ f_ 0]))) (Q (r_ [q_ r,n_ f_ 0]))))))))))))))):=U
def lx{x d:Nat}(hx:0<x)(b:d<10):Lib.decDigits (x*10+d)=Lib.decDigits x++[b_ (48+d)]:=by
 rw[Lib.decDigits,dif_neg (by omega)]
 have e1:(x*10+d)/10=x:=by omega
 have a:(x*10+d)%10=d:=by omega
 rw[e1,a]
def IE{x a b c d:Nat}(hx:0<x)(ha:a<10)(f:b<10)(g:c<10)(h:d<10):
  Lib.decDigits (x*10000+(a*1000+b*100+c*10+d))=Lib.decDigits x++[b_ (48+a),b_ (48+b),b_ (48+c),b_ (48+d)]:=by
 have e:x*10000+(a*1000+b*100+c*10+d)=(((x*10+a)*10+b)*10+c)*10+d:=by omega
 rw[e,lx (by omega) h,lx (by omega) g,lx (by omega) f,lx hx ha]
 simp
def rB{l:Nat}(hl:l<10000):l_ (4-(Lib.decDigits l).length) 48++Lib.decDigits l=[b_ (48+l/1000),b_ (48+l/100%10),b_ (48+l/10%10),b_ (48+l%10)]/\(Lib.decDigits l).length<=4/\0<(Lib.decDigits l).length:=by
 by_cases h1:l<10
 ·have e1:l/1000=0:=by omega
  have e:l/100%10=0:=by omega
  have f:l/10%10=0:=by omega
  have g:l%10=l:=by omega
  rw[e1,e,f,g,Lib.decDigits_one h1]
  exact⟨rfl,by simp,by simp⟩
 ·obtain⟨x,d,h,rfl,hx⟩:∃x d,d<10/\l=x*10+d/\0<x:=⟨l/10,l%10,by omega,by omega,by omega⟩
  have g:(x*10+d)%10=d:=by omega
  have f:(x*10+d)/10%10=x%10:=by omega
  have e:(x*10+d)/100%10=x/10%10:=by omega
  have e1:(x*10+d)/1000=x/100:=by omega
  rw[e1,e,f,g,lx hx h]
  by_cases i:x<10
  ·have f1:x/100=0:=by omega
   have j:x/10%10=0:=by omega
   have k:x%10=x:=by omega
   rw[f1,j,k,Lib.decDigits_one i]
   exact⟨rfl,by simp,by simp⟩
  ·obtain⟨y,c,m,rfl,n⟩:∃y c,c<10/\x=y*10+c/\0<y:=⟨x/10,x%10,by omega,by omega,by omega⟩
   have g3:(y*10+c)%10=c:=by omega
   have g2:(y*10+c)/10%10=y%10:=by omega
   have g1:(y*10+c)/100=y/10:=by omega
   rw[g1,g2,g3,lx n m]
   by_cases o:y<10
   ·have k1:y/10=0:=by omega
    have k2:y%10=y:=by omega
    rw[k1,k2,Lib.decDigits_one o]
    exact⟨rfl,by simp,by simp⟩
   ·obtain⟨a,b,p,rfl,q⟩:∃a b,b<10/\y=a*10+b/\0<a:=⟨y/10,y%10,by omega,by omega,by omega⟩
    have r:(a*10+b)%10=b:=by omega
    have s:(a*10+b)/10=a:=by omega
    rw[s,r,lx q p,Lib.decDigits_one (show a<10 by omega)]
    exact⟨rfl,by simp,by simp⟩
def yI{x l:Nat}(hx:0<x)(hl:l<10000):Lib.decDigits (l+10000*x)=Lib.decDigits x++(l_ (4-(Lib.decDigits l).length) 48++Lib.decDigits l):=by
 rw[(rB hl).1]
 have e:l+10000*x=x*10000+(l/1000*1000+l/100%10*100+l/10%10*10+l%10):=by omega
 rw[e,IE hx (by omega) (by omega) (by omega) (by omega)]
def rC(l:Nat):Lib.itoa (M l)=Lib.decDigits l:=Lib.itoa_nonneg l
def aT.same(a):aT a a:=rfl
def DE(v:Nat)(j:Int):List UInt8:=Lib.decDigits (v/10000^(j+1).toNat)
def GJ{v}(c:(Lib.decDigits v).length<=200)(j):(DE v j).length<=200:=by
 refine D_ ?_ c
 unfold DE
 rw[Lib.decDigits_length,Lib.decDigits_length]
 have mono:∀(a b:Nat),a<=b->Lib.nDigits a<=Lib.nDigits b:=by
  intro a
  induction a using s_ with
  |_ a d=>
   intro b e
   by_cases h:a<10
   ·rw[Lib.nDigits_small h];exact Lib.nDigits_pos b
   ·rw[Lib.nDigits_big h,Lib.nDigits_big (O:¬ b<10)]
    have:=d (a/10) O (b/10) O
    omega
 exact mono _ _ (Nat.div_le_self _ _)
def LW{v n}(hn:n+1=ar v):Lib.itoa (aO v n)=DE v (M n-1):=by
 have e:(M n-1+1).toNat=n:=by show((n:Int)-1+1).toNat=_;omega
 unfold DE
 rw[e]
 show Lib.itoa (M (ob v n))=_
 rw[rC,fZ,hn,A_ (fY v)];rfl
def P9{v n}(hn:n+1<ar v):e_ (DE v (M n)) (e_ (RJ (d_ (4-M (Lib.itoa (aO v n)).length))) (Lib.itoa (aO v n)))=DE v (M n-1):=by
 have e:(M n-1+1).toNat=n:=by show((n:Int)-1+1).toNat=_;omega
 have b:(M n+1).toNat=n+1:=by show((n:Int)+1).toNat=_;omega
 have hi:Lib.itoa (aO v n)=Lib.decDigits (ob v n):=rC _
 unfold DE
 rw[e,b,hi,fZ v n]
 have a:0<v/10000^(n+1):=by
  refine Nat.pos_of_ne_zero λh=>?_
  rcases Nat.div_eq_zero_iff.1 h with h|h
  ·grind
  ·have:=eh _ _ h;omega
 have hl:=(rB (kN v n)).2.1
 rw[yI a (kN v n)]
 have c:d_ (4-M (Lib.decDigits (ob v n)).length)=4-(Lib.decDigits (ob v n)).length:=by
  show d_ (4-((Lib.decDigits (ob v n)).length:Int))=_
  omega
 rw[c]
 rfl
def IF{b v}(F:0<ar v)(G:ar v<=1000000)(q:(Lib.decDigits v).length<=200):eu PP II false (aD II 212 1002) 17 (EB b (ar v) v (DE v) (false,M (ar v)-1)) (Aq b (ar v) v (Lib.decDigits v)):=
 eu.of (ι:=Bool×Int) Hs [Cb,uV,bU] (bm PP II []) 1000 17 (λp=> -1<=p.2/\p.2<M (ar v)/\(p.1=false->p.2=M (ar v)-1)/\(p.1=true->p.2<M (ar v)-1)) (EB b (ar v) v (DE v)) (λ_=>Aq b (ar v) v (Lib.decDigits v)) (λp=>(p.2+1).toNat) (λp=>(true,p.2-1)) (false,M (ar v)-1) A
  ⟨Y,O,λ_=>rfl,λh=>zE⟩ λp r=>by
  obtain⟨l,j⟩:=p
  obtain⟨s,g,t,u⟩:=r
  change -1<=j at s
  change j<M (ar v)at g
  by_cases m:0<=j
  ·obtain⟨n,rfl⟩:∃n:Nat,j=M n:=⟨j.toNat,(x_ m).symm⟩
   have w:(n:Int)<(ar v:Int):=g
   have a:(a_ (0<=M n)&&a_ (M n<M (ar v)))=true:=nM m g
   have c:aN f_ (aO v n)=true:=by have:=ry v n;exact aq (by show _<=M (ob v n);omega) (by show M (ob v n)<=_;omega)
   have d:aN f_ (M (ar v)-1)=true:=aq O Y
   have f:aN f_ (M n-1)=true:=aq O Y
   obtain⟨x,i,y⟩:=rB (kN v n)
   have hl:(Lib.itoa (aO v n)).length<=4:=by rw[show Lib.itoa (aO v n)=_ from rC _];exact i
   have o:(-1<=M n-1/\M n-1<M (ar v)/\(true=false->M n-1=M (ar v)-1)/\(true=true->M n-1<M (ar v)-1))/\(M n-1+1).toNat<(M n+1).toNat/\(Aq b (ar v) v (Lib.decDigits v)).pick=(Aq b (ar v) v (Lib.decDigits v)).pick :=
    Y
   cases l with
   |false=>
    have hn:n+1=ar v:=by have:=t A;change (n:Int)=(ar v:Int)-1 at this;omega
    refine(EC b (ar v) v (DE v) (Lib.decDigits v) (M n) _ A A A).mpr ?_
    rw[show d_ (M n)=n from rfl]
    with_reducible refine Zh (λ_=>Ze a (Ze c (Ze d (Zh (λh=>?_) λ_=>?_)))) (λh=>?_)
    grind
    ·have e:=LW hn
     exact Ze Y (Ze f (Zi e ⟨rfl,rfl,YG A ⟨dm _ _,YG (by rw[e]) ⟨rfl,YG A ⟨dm _ _,Zf A o⟩⟩⟩⟩))
    grind
   |true=>
    have hn:n+1<ar v:=by have:=u A;change (n:Int)<(ar v:Int)-1 at this;omega
    refine(wo b (ar v) v (DE v) (Lib.decDigits v) (M n) _ A A A A A).mpr ?_
    rw[show d_ (M n)=n from rfl]
    have e:=P9 hn
    have H:=GJ q (M n)
    have B:(RJ (d_ (4-M (Lib.itoa (aO v n)).length))).length<=4:=by
     show(l_ _ _).length<=4
     rw[List.length_replicate]
     show d_ (4-((Lib.itoa (aO v n)).length:Int))<=4
     omega
    have C:(e_ (RJ (d_ (4-M (Lib.itoa (aO v n)).length))) (Lib.itoa (aO v n))).length<=8:=by
     rw[List.append_eq,k_];omega
    with_reducible refine Zh (λ_=>Ze a (Ze c (Ze d (Zh (λ_=>?_) λh=>?_)))) (λh=>?_)
    ·have D:0<=(RJ (d_ (4-M (Lib.itoa (aO v n)).length))).length:=H_ _
     refine Ze (aq Y Y) (Ze Y (Ze Y (Ze ?_ (Ze f (Zi e ⟨rfl,rfl,YG A ⟨dm _ _,YG ?_ ⟨rfl,YG A ⟨dm _ _,Zf A o⟩⟩⟩⟩)))))
     grind
     ·rw[<-e];simp
    all_goals grind
  ·have k:j= -1:=by omega
   have E:DE v j=Lib.decDigits v:=by rw[k];show Lib.decDigits (v/10000^0)=_;rw[E_,I_]
   cases l with
   |false=>grind
   |true=>
    refine(wo b (ar v) v (DE v) (Lib.decDigits v) j _ A A A A A).mpr ?_
    rw[E]
    with_reducible refine Zh (λh=>?_) (λ_=>?_)
    grind
    ·exact Zi A ⟨rfl,rfl,YG A ⟨dm _ _,YG A ⟨rfl,YG A ⟨dm _ _,trivial⟩⟩⟩⟩
def xO(b:Bool)(v:Nat):List UInt8:=bif w_ v 0 then [48]else bif b then 45::Lib.decDigits v else Lib.decDigits v
def GK{b:Bool}{v:Nat}(d:ar v<=1000000)(f:(Lib.decDigits v).length<=200):af PP II 111 [.agg [.bool b,jm v]] HP (.ret (.qP [.str (xO b v),.int f_ 0]) HP):=by
 refine kz (T:=[(1002,17,EB b (ar v) v (DE v) (false,M (ar v)-1),Aq b (ar v) v (Lib.decDigits v))]) ((P8 b (ar v) v (DE v) (Lib.decDigits v) _).mpr ?_)
 have g:=Lib.nDigits_pos v
 rw[<-Lib.decDigits_length]at g
 with_reducible refine Zh (λh=>?_) (λh=>Ze ?_ ⟨?_,aT.same _,aT.same _,YG A ⟨dm _ _,rfl,YG A ⟨dm _ _,Zf A (Ze ?_ (Ze ?_ (Ze ?_ (Ze ?_ (Zh (λj=>?_) (λ_=>Zh (λc=>Ze ?_ ?_) (λc=>?_)))))))⟩⟩⟩)
 ·have h:=pT h
  have i:ar v=0:=Int.ofNat.inj h
  have a:v=0:=by have:=fY v;rw[i]at this;simpa using this
  subst a
  exactλσ=>⟨rfl,⟨rfl,rfl⟩,trivial⟩
 ·exact aq Y Y
 ·have h:=of_decide_eq_false h
  have h :¬ (ar v:Int)=0:=h
  exact IF O d f
 grind
 ·simp
 ·simp
 grind
 grind
 grind
 all_goals
  have h:=of_decide_eq_false h
  have a:w_ v 0=false:=by
   rw[y_];intro e
   have:=dE e
   subst this
   exact h (by rw[DC];rfl)
  subst c
  intro σ
  refine⟨?_,⟨rfl,rfl⟩,trivial⟩
  show _=xO _ v
  unfold xO
  rw[a];rfl
def tU{k f}(h:cO k f=true)(a:k=ar (numOf k f)):J_ (λl=>l) (.ab k 1 f) (jm (numOf k f)):=⟨a,rfl,(gT h).2.2⟩
def WE:aC PP II:=aC.l8 111
 (λX args a=>match args with
  |[.agg [.bool b,.ab k 1 f]]=>X.bq (cO k f&&w_ k (ar (numOf k f))&&i_ k 1000000&&i_ (Lib.decDigits (numOf k f)).length 200) (a (.qP [.str (xO b (numOf k f)),.int f_ 0]))
  |_=>X.fail)
 λX sem hX args a h=>by
  split at h
  ·rename_i b k f
   obtain⟨c,d⟩:=hX.bq _ _ h
   simp only[bf]at c
   obtain⟨⟨⟨a1,a2⟩,e⟩,g⟩:=c
   have i:=dE a2
   have j:=jX e
   exact⟨_,d,λ_=>rfl,λ_=>rfl,(GK (b:=b) O (jX g)).dq ⟨⟨rfl,tU a1 i,trivial⟩,trivial⟩⟩
  ·exact zR
def eJ(s:List UInt8):List UInt8:=Lib.trimPrefix s [45]
def LX(s):af PP II 210 [.str s,.str [45]] (g_ 12) (.ret (.str (eJ s)) (g_ 12)):=
 af.oB zA λc ρ w vs hG b g=>by
  obtain⟨u,us,rfl,e1,d,f,rfl,a,rfl⟩:=b
  have e1:u= .string ⟨s.toArray⟩:=e1
  have a:d= .string ⟨#[45]⟩:=a
  subst e1 a
  refine(Go.Proofs.Any.strings_TrimPrefix Go.Proofs.Tryz.wm ⟨s.toArray⟩ ⟨#[45]⟩ w).mono ?_
  rintro e w' ⟨rfl,rfl⟩
  exact⟨_,rfl,rfl,RowKit.Below.refl _ _⟩
def ED:aC PP II:=aC.pure 210
 (λX args a=>match args with
  |[.str s,.str [45]]=>a (.str (eJ s))
  |_=>X.fail)
 λX sem hX args a h=>by
  split at h
  ·exact⟨_,h,λ_=>rfl,λ_=>rfl,LX _⟩
  ·exact zR
def GL(s:List UInt8):Int:=M (C_ (s.getD 0 0))
def EE(s)(Q):(kb [ED,EA] [] 153 [.str s] Q)=(ah (j_ (eJ s) []) (Q (h_ false)) (ah (a_ (M (z (eJ s))>200)) (Q (h_ false)) (aa (i_ (z (eJ s)) 1000000) (ah (!List.beq (yH (eJ s)) []) (Q (h_ false)) (ah (j_ s [48]) (Q (h_ true)) (aa (a_ (0<M (z (eJ s)))) (Q (h_ !decide (M (C_ (Option.getD (List.get?Internal (eJ s) 0) 0))=48))))))))):=U
def sr(s:List UInt8):Bool:=match j_ (eJ s) []with
 |true=>false
 |false=>match a_ (M (eJ s).length>200)with
  |true=>false
  |false=>match !List.beq (yH (eJ s)) []with
   |true=>false
   |false=>match j_ s [48]with
    |true=>true
    |false=>!decide (GL (eJ s)=48)
def wq(s):af PP II 153 [.str s] (g_ 12) (.ret (.bool (sr s)) (g_ 12)):=by
 refine bY (ks:=[ED,EA]) (T:=[]) (λ_=>rfl) ((EE s _).mpr ?_)
 unfold sr
 with_reducible refine Zh (λh=>?_) λh=>Zh (λa=>?_) λa=>Ze ?_ (Zh (λd=>?_) λd=>Zh (λb=>?_) λb=>Ze ?_ ?_)
 ·rw[h]
 ·rw[h,a]
 ·have a:=of_decide_eq_false a
  have a :¬ ((eJ s).length:Int)>200:=a
  exact kV O
 ·rw[h,a,d]
 ·have b:s.beq [48]=true:=b
  rw[h,a,d,b]
 ·refine bW ?_
  cases ht:eJ s with
  |nil=>rw[ht]at h;cases h
  |cons c r=>simp
 ·have b:s.beq [48]=false:=b
  rw[h,a,d,b];rfl
def Cd:aC PP II:=aC.pure 153
 (λX args a=>match args with
  |[.str s]=>a (.bool (sr s))
  |_=>X.fail)
 λX sem hX args a h=>by
  split at h
  ·exact⟨_,h,λ_=>rfl,λ_=>rfl,wq _⟩
  ·exact zR
def EF(neg:Bool)(D:Nat->List UInt8)(W:Nat->Int)(i:Bool×Nat):St:=match i.1 with
 |false=>{t:=c_ [(2,.ptr 12 0 0 0),(3,.str (D 0)),(4,.ptr 13 0 0 0)],nt:=44,H:={n:=14,t:=c_ [(12,.cells [.bool false,.aw] (.ty 184)),(13,.cells [.bool neg,.aw] (.ty 184))]},df:=[]}
 |true=>{t:=c_ [(2,.ptr 12 0 0 0),(3,.str (D i.2)),(4,.ptr 13 0 0 0)],nt:=44,H:={n:=15,t:=c_ [(12,.cells [.bool false,.aw] (.ty 184)),(13,.cells [.bool neg,.own 14 i.2 1] (.ty 184)),(14,.rows i.2 1 (ae W) (.ty 3))]},df:=[]}
def Ar(neg:Bool)(W:Nat->Int)(L:Nat):GE:=.one (.x 0 {t:=c_ [(2,.ptr 12 0 0 0),(4,.ptr 13 0 0 0)],nt:=44,H:={n:=15,t:=c_ [(12,.cells [.bool false,.aw] (.ty 184)),(13,.cells [.bool neg,.own 14 L 1] (.ty 184)),(14,.rows L 1 (ae W) (.ty 3))]},df:=[]})
def Ce(neg)(D)(W)(L)(Q){a}(c:a=(if M (z (D 0))-4>0 then M (z (D 0))-4 else 0)){b}(d:b=(o_ (d_ (M (z (D 0)))-a.toNat) (m_ a.toNat (D 0)))):(kr [Cc] [] 154 3003 14 (EF neg D W) (λ_=>Ar neg W L) (λi=>(true,i.2+1)) Q (false,0))=(ah (a_ (M (z (D 0))>0)) (aa (aN f_ (M (z (D 0))-4)) (aa (a_ (0<=if M (z (D 0))-4>0 then M (z (D 0))-4 else 0)&&a_ (a<=M (z (D 0)))&&a_ (M (z (D 0))<=M (z (D 0)))) (aa (iX b&&i_ (z b) 1000000) (aa (a_ (0<=if M (z (D 0))-4>0 then M (z (D 0))-4 else 0)&&a_ (a<=M (z (D 0)))) (an 1 (fW [n_ f_ (bl b)] 1) (ae W)/\neg=neg/\false=false/\bI (o_ (a.toNat-0) (m_ 0 (D 0))) (D 1) Q))))) (ax L 0 (neg=neg/\ax L 0 (false=false/\True)))):=by subst_vars;kernel_rfl
def Cf(neg)(D)(W)(L i)(Q){a}(d:a=(if M (z (D i))-4>0 then M (z (D i))-4 else 0)){b}(e:b=(o_ (d_ (M (z (D i)))-a.toNat) (m_ a.toNat (D i)))):(kr [Cc] [] 154 3003 14 (EF neg D W) (λ_=>Ar neg W L) (λi=>(true,i.2+1)) Q (true,i))=(ah (a_ (M (z (D i))>0)) (aa (aN f_ (M (z (D i))-4)) (aa (a_ (0<=if M (z (D i))-4>0 then M (z (D i))-4 else 0)&&a_ (a<=M (z (D i)))&&a_ (M (z (D i))<=M (z (D i)))) (aa (iX b&&i_ (z b) 1000000) (aa (a_ (i<=i)&&true&&true&&a_ ((i+1)*8<=140737488355328)&&true) (aa (a_ (0<=if M (z (D i))-4>0 then M (z (D i))-4 else 0)&&a_ (a<=M (z (D i)))) (zyN (i+1) (an (i+1) (λc=>bif z_ c i then ae W c else o_ 1 (m_ (0+(c-i)*1) [n_ f_ (bl b)])) (ae W)/\neg=neg/\zyN (i+1) (false=false/\bI (o_ (a.toNat-0) (m_ 0 (D i))) (D (i+1)) Q)))))))) (ax i L (zyR i (ae W) (neg=neg/\ax i L (false=false/\True))))):=by subst_vars;kernel_rfl
def LY(s)(neg)(D)(W)(L)(Q):(kb [ED,tS] [(3003,14,EF neg D W (false,0),Ar neg W L)] 154 [.str s] Q)=(eu PP II false (aD II 154 3003) 14 (EF neg D W (false,0)) (Ar neg W L)/\a_ (M (z (eJ s))<M (z s))=neg/\false=false/\bI (eJ s) (D 0) (aa ((List.all (List.range.loop L []) λi=>true)&&a_ (L<=L)) (aa (cO L (ae W)&&i_ L 1000000) (Q (u_ [h_ neg,AV.ab (ar (numOf L (ae W))) 1 (aG (numOf L (ae W)))]))))):=U
def asByte(d:Nat):UInt8:=b_ (48+d)
def EG(acc:Nat)(ds:List Nat):Nat:=ds.foldl (λa d=>a*10+d) acc
def pA{d}(h:d<10){p:Nat->Prop}(a:p 0)(b:p 1)(c:p 2)(e:p 3)(f:p 4)(g:p 5)(i:p 6)(j:p 7)(k:p 8)(l:p 9):p d:=by
 rcases(O:d=0∨d=1∨d=2∨d=3∨d=4∨d=5∨d=6∨d=7∨d=8∨d=9)with rfl|rfl|rfl|rfl|rfl|rfl|rfl|rfl|rfl|rfl<;>assumption
def uC{d}(h:d<10):Lib.digitVal (asByte d)=Option.some d:=pA h (p:=λd=>Lib.digitVal (asByte d)=Option.some d) A A A A A A A A A A
def tV{d}(h:d<10):(asByte d==45)=false/\(asByte d==43)=false:=pA h (p:=λd=>(asByte d==45)=false/\(asByte d==43)=false) ⟨rfl,rfl⟩ ⟨rfl,rfl⟩ ⟨rfl,rfl⟩ ⟨rfl,rfl⟩ ⟨rfl,rfl⟩ ⟨rfl,rfl⟩ ⟨rfl,rfl⟩ ⟨rfl,rfl⟩ ⟨rfl,rfl⟩ ⟨rfl,rfl⟩
def nO:∀(ds)(acc),(∀d∈ds,d<10)->Lib.decFrom acc (ds.map asByte)=Option.some (EG acc ds)
 |[],_,_=>rfl
 |d::ds,acc,h=>by
  simp only[v_,Lib.decFrom,uC (h d p_)]
  exact nO ds _ ZD
def yJ{ds}(a:ds≠[])(hl:ds.length<=18)(h:∀d∈ds,d<10):Lib.atoiAll (ds.map asByte)= .ok ((EG 0 ds:Nat):Int):=by
 rw[Lib.atoiAll_short _ (by simpa using hl)]
 cases ds with
 |nil=>exact absurd A a
 |cons d ds=>
  obtain⟨b,c⟩:=tV (h d p_)
  have e:Lib.decNat (asByte d::ds.map asByte)=Option.some (EG 0 (d::ds)):=by
   unfold Lib.decNat
   exact nO (d::ds) 0 h
  simp only[v_,Lib.atoi,b,c,kH,if_false,e]
  rfl
def VI(x):∃ds,Lib.decDigits x=ds.map asByte/\ds≠[]/\(∀d∈ds,d<10)/\EG 0 ds=x:=by
 induction x using s_ with
 |_ x a=>
  by_cases h:x<10
  ·exact⟨[x],by rw[Lib.decDigits_one h];rfl,zA,by simpa using h,by simp[EG]⟩
  ·obtain⟨ds,b,e,f,c⟩:=a (x/10) O
   refine⟨ds++[x%10],?_,zA,?_,?_⟩
   ·rw[Lib.decDigits,dif_neg h,b,List.map_append];rfl
   grind
   ·unfold EG at c⊢
    grind
def yK{s v}(h:Lib.atoiAll s= .ok v):iX s=true/\bl s=v:=by
 unfold iX bl
 grind
def LZ{x}(hx:(Lib.decDigits x).length<=18):iX (Lib.decDigits x)=true/\bl (Lib.decDigits x)=(x:Int):=by
 obtain⟨ds,a,b,c,d⟩:=VI x
 rw[a]at hx⊢
 have:=yJ b (by simpa using hx) c
 rw[d]at this
 exact yK this
def TT(l:Nat):List UInt8:=[b_ (48+l/1000),b_ (48+l/100%10),b_ (48+l/10%10),b_ (48+l%10)]
def L0{l}(hl:l<10000):iX (TT l)=true/\bl (TT l)=(l:Int):=by
 have:=yJ (ds:=[l/1000,l/100%10,l/10%10,l%10]) zA zA (by
  grind)
 have e:EG 0 [l/1000,l/100%10,l/10%10,l%10]=l:=by
  show(((0*10+l/1000)*10+l/100%10)*10+l/10%10)*10+l%10=l
  omega
 rw[e]at this
 exact yK this
def pD(v i:Nat):List UInt8:=if v/10000^i=0/\0<i then []else Lib.decDigits (v/10000^i)
def pL(v:Nat):Nat:=if v=0 then 1 else ar v
def L1(v):0<pL v:=by
 unfold pL
 split
 ·omega
 ·rename_i h;rw[rv h];omega
def TU{v}:pD v (pL v)=[]:=by
 have h:=L1 v
 have a:v/10000^pL v=0:=by
  unfold pL
  split
  ·omega
  ·exact A_ (fY v)
 unfold pD
 grind
def GM{v i:Nat}(hi:i<pL v):0<(pD v i).length/\iX ((pD v i).drop ((pD v i).length-4))=true/\bl ((pD v i).drop ((pD v i).length-4))=aO v i/\(pD v i).take ((pD v i).length-4)=pD v (i+1):=by
 have hx:pD v i=Lib.decDigits (v/10000^i):=by
  unfold pD
  rw[if_neg]
  rintro⟨b,c⟩
  unfold pL at hi
  split at hi
  ·omega
  ·rcases Nat.div_eq_zero_iff.1 b with h|h
   grind
   ·have:=eh _ _ h;omega
 have d:v/10000^(i+1)=v/10000^i/10000:=by rw[Nat.pow_succ,Nat.div_div_eq_div_mul]
 have hl:aO v i=((v/10000^i%10000:Nat):Int):=rfl
 have f:pD v (i+1)=if v/10000^i/10000=0 then []else Lib.decDigits (v/10000^i/10000):=by
  unfold pD
  rw[d]
  by_cases h:v/10000^i/10000=0
  ·simp
  ·rw[if_neg (λe=>h e.1),if_neg h]
 rw[hx,f,hl]
 generalize v/10000^i=x
 by_cases h:x<10000
 ·obtain⟨b,c,g⟩:=rB h
  have e:(Lib.decDigits x).length-4=0:=O
  obtain⟨a1,a2⟩:=LZ (x:=x) O
  rw[e,t_,List.take_zero,if_pos O,Nat.mod_eq_of_lt h]
  exact⟨g,a1,a2,rfl⟩
 ·have a:=Nat.mod_lt x (O:0<10000)
  have e1:Lib.decDigits x=Lib.decDigits (x/10000)++TT (x%10000):=by
   have:=yI (x:=x/10000) (l:=x%10000) O a
   rw[(rB a).1,show x%10000+10000*(x/10000)=x by omega]at this
   exact this
  have j:(Lib.decDigits x).length-4=(Lib.decDigits (x/10000)).length:=by rw[e1,k_];show _+4-4=_;omega
  obtain⟨a1,a2⟩:=L0 a
  rw[j,e1,List.drop_left,List.take_left,if_neg O]
  exact⟨by rw[k_];show 0<_+4;omega,a1,a2,rfl⟩
def GO(n):(if M n-4>0 then M n-4 else 0)=M (n-4):=by
 grind
def IG(v i)(a:(Lib.decDigits v).length<=200):(pD v i).length<=200:=by
 unfold pD
 split
 simp
 ·have:=GJ a (M i-1)
  unfold DE at this
  grind
def EH{neg v}(q:(Lib.decDigits v).length<=200)(hL:pL v<=1000000):eu PP II false (aD II 154 3003) 14 (EF neg (pD v) (aO v) (false,0)) (Ar neg (aO v) (pL v)):=
 eu.of (ι:=Bool×Nat) Hs [Cc] (bm PP II []) 1000 14 (λp=>p.2<=pL v/\(p.1=false->p.2=0)) (EF neg (pD v) (aO v)) (λ_=>Ar neg (aO v) (pL v)) (λp=>pL v-p.2) (λp=>(true,p.2+1)) (false,0) A
  ⟨H_ _,λ_=>rfl⟩ λp r=>by
  obtain⟨b,i⟩:=p
  obtain⟨t,u⟩:=r
  change i<=pL v at t
  have k:=IG v i q
  have l:∀(s:List UInt8),d_ (M s.length)-d_ (M (s.length-4))=s.length-(s.length-4):=λ_=>rfl
  have c:∀(s:List UInt8),o_ (s.length-(s.length-4)) (m_ (s.length-4) s)=m_ (s.length-4) s:=λs=>List.take_of_length_le zA
  have d:∀n:Nat,d_ (M n)=n:=λ_=>rfl
  have a:i<pL v->(i+1<=pL v/\(true=false->i+1=0))/\pL v-(i+1)<pL v-i/\(Ar neg (aO v) (pL v)).pick=(Ar neg (aO v) (pL v)).pick:=λhi=>Y
  have r1:aN f_ (M (pD v i).length-4)=true:=aq Y Y
  have m:(a_ (0<=M ((pD v i).length-4))&&a_ (M ((pD v i).length-4)<=M (pD v i).length))=true:=zA
  have o:(a_ (0<=M ((pD v i).length-4))&&a_ (M ((pD v i).length-4)<=M (pD v i).length)&&a_ (M (pD v i).length<=M (pD v i).length))=true:=zA
  cases b with
  |false=>
   have f:i=0:=u A
   subst f
   have hi:=L1 v
   obtain⟨k1,k2,g,j⟩:=GM hi
   refine(Ce neg (pD v) (aO v) (pL v) _ A A).mpr ?_
   rw[GO,l,d ((pD v 0).length-4),c,F_,t_]
   with_reducible refine Zh (λ_=>Ze r1 (Ze o (Ze ?_ (Ze m ⟨?_,rfl,rfl,Zi j (a hi)⟩)))) (λh=>?_)
   ·rw[k2,B_];exact kV Y
   ·intro x hx σ
    have:x=0:=O
    subst this
    rw[g];exact⟨⟨rfl,rfl⟩,trivial⟩
   grind
  |true=>
   refine(Cf neg (pD v) (aO v) (pL v) i _ A A).mpr ?_
   rw[GO,l,d ((pD v i).length-4),c,F_,t_]
   by_cases hi:i<pL v
   ·obtain⟨k1,k2,g,j⟩:=GM hi
    rw[g]
    with_reducible refine Zh (λ_=>Ze r1 (Ze o (Ze ?_ (Ze ?_ (Ze m (YG A ⟨jT A,rfl,YG A ⟨rfl,Zi j (a hi)⟩⟩)))))) (λh=>?_)
    ·rw[k2,B_];exact kV Y
    all_goals grind
   ·have e:i=pL v:=by omega
    subst e
    with_reducible refine Zh (λh=>?_) (λ_=>YG A ⟨dG _ _,rfl,YG A ⟨rfl,trivial⟩⟩)
    have h:=pT h
    rw[TU]at h
    grind
def WG(v):ar v<=pL v:=by
 unfold pL
 split
 ·rename_i h;rw[h,DC];omega
 omega
def L2{s v}(a:eJ s=Lib.decDigits v)(b:(Lib.decDigits v).length<=200)(hL:pL v<=1000000):af PP II 154 [.str s] (g_ 12) (.ret (.agg [.bool (a_ (M (eJ s).length<M s.length)),jm v]) (g_ 12)):=by
 refine Al (T:=[(3003,14,EF (a_ (M (eJ s).length<M s.length)) (pD v) (aO v) (false,0),Ar (a_ (M (eJ s).length<M s.length)) (aO v) (pL v))]) ((LY s _ (pD v) (aO v) (pL v) _).mpr ?_)
 have c:pD v 0=Lib.decDigits v:=by unfold pD;rw[if_neg O,E_,I_]
 have e1:numOf (pL v) (ae (aO v))=v:=kY (WG v)
 rw[e1]
 exact⟨EH b hL,rfl,rfl,Zi (a.trans c.symm) (Ze zA (Ze (dZ (cM _ v) ZD) λσ=>⟨rfl,mP σ v,trivial⟩))⟩
def L3(s:List UInt8):Nat:=(Lib.decNat s).getD 0
def IH(v):L3 (Lib.decDigits v)=v:=by
 obtain⟨ds,a,d,b,c⟩:=VI v
 unfold L3 Lib.decNat
 rw[a,nO ds 0 b,c]
 simp_all
def ao(s:List UInt8):Nat:=L3 (eJ s)
def fM(s:List UInt8):Bool:=j_ (eJ s) (Lib.decDigits (ao s))&&i_ (eJ s).length 200
def qd(s:List UInt8):Bool:=a_ (M (eJ s).length<M s.length)
def wu{a b:List UInt8}(h:j_ a b=true):a=b:=eq_of_beq h
def tW{v}(a:(Lib.decDigits v).length<=200):ar v<=200:=by
 refine eh _ _ ?_
 rw[Lib.decDigits_length]at a
 have b:=Lib.lt_pow_nDigits v
 refine Nat.lt_of_lt_of_le b (D_ (Nat.pow_le_pow_right O a) O)
def WH{v}(a:(Lib.decDigits v).length<=200):pL v<=1000000:=by
 have:=tW a
 unfold pL
 split<;>omega
def rE{s}(h:fM s=true):eJ s=Lib.decDigits (ao s)/\(Lib.decDigits (ao s)).length<=200:=by
 unfold fM at h
 simp only[bf]at h
 have e:=wu h.1
 simp_all
def EI:aC PP II:=aC.pure 154
 (λX args a=>match args with
  |[.str s]=>X.bq (fM s) (a (.agg [.bool (qd s),jm (ao s)]))
  |_=>X.fail)
 λX sem hX args a h=>by
  split at h
  ·rename_i s
   obtain⟨c,d⟩:=hX.bq _ _ h
   obtain⟨e1,b⟩:=rE c
   exact⟨_,d,λ_=>rfl,λ_=>rfl,L2 e1 b (WH b)⟩
  ·exact zR
def l9(c)(r):Lib.hasPrefix (c::r) [45]=(45==c):=by
 show List.isPrefixOf [45] (c::r)=_
 grind
def IJ(r):eJ (45::r)=r:=by
 rfl
def pB(v):eJ (Lib.decDigits v)=Lib.decDigits v:=by
 obtain⟨ds,a,b,c,e⟩:=VI v
 rw[a]
 cases ds with
 |nil=>exact absurd A b
 |cons d ds=>
  unfold eJ Lib.trimPrefix
  have:=(tV (c d p_)).1
  rw[v_,l9,show((45:UInt8)==asByte d)=false by grind]
  rfl
def uD{d}(h:d<10):qG.contains (asByte d)=true:=pA h (p:=λd=>qG.contains (asByte d)=true) A A A A A A A A A A
def GP{p}:∀(l:List UInt8),(∀x∈l,p x=true)->l.dropWhile p=[]
 |[],_=>rfl
 |x::l,h=>by rw[List.dropWhile_cons,if_pos Y];exact GP l ZD
def IK(v):yH (Lib.decDigits v)=[]:=by
 obtain⟨ds,b,f,c,g⟩:=VI v
 have a:∀x∈ds.map asByte,qG.contains x=true:=λx hx=>by
  obtain⟨d,e,rfl⟩:=List.mem_map.1 hx
  exact uD (c d e)
 unfold yH Lib.trimS Lib.trimRightS Lib.trimLeftS
 rw[b,GP (ds.map asByte).reverse λx hx=>a x (List.mem_reverse.1 hx)]
 rfl
def L4{v}(a:0<v):∃d ds,Lib.decDigits v=asByte d::ds/\0<d/\d<10:=by
 induction v using s_ with
 |_ v b=>
  by_cases h:v<10
  ·exact⟨v,[],by rw[Lib.decDigits_one h];rfl,a,h⟩
  ·obtain⟨d,ds,c,e,f⟩:=b (v/10) O O
   exact⟨d,ds++[b_ (48+v%10)],by rw[Lib.decDigits,dif_neg h,c];rfl,e,f⟩
def As{d}(h:d<10):(asByte d).toNat=48+d:=pA h (p:=λd=>(asByte d).toNat=48+d) A A A A A A A A A A
def beq_false{a b:List UInt8}(h:a≠b):j_ a b=false:=by
 rw[y_];exactλe=>h (wu e)
def Cg(a:List UInt8):j_ a a=true:=beq_self_eq_true a
def L5{s v}(ht:eJ s=Lib.decDigits v)(hl:(Lib.decDigits v).length<=200)(h:0<v∨s=[48]):sr s=true:=by
 have a:=Lib.nDigits_pos v
 rw[<-Lib.decDigits_length]at a
 unfold sr
 rw[ht,beq_false Y,nZ (show¬ M (Lib.decDigits v).length>200 by grind),IK]
 rcases h with h|h
 ·show(match false with|true=>false|false=>match j_ s [48]with|true=>true|false=>!decide (GL (Lib.decDigits v)=48))=true
  cases e:j_ s [48]with
  |true=>rfl
  |false=>
   obtain⟨d,ds,b,f,c⟩:=L4 h
   show(!decide (GL (Lib.decDigits v)=48))=true
   rw[b]
   have:GL (asByte d::ds)=((48+d:Nat):Int):=by show M (asByte d).toNat=_;rw[As c];rfl
   grind
 ·rw[h];rfl
def GQ(b:Bool)(v:Nat):AV:=.agg [.bool b,jm v]
def L6(a b)(Q):(kb [Cd,EI] [] 106 [.str a,.str b] Q)=(ah (!sr a) (Q (r_ [u_ [h_ false,L_],u_ [h_ false,L_],h_ false])) (ah (!sr b) (Q (r_ [u_ [h_ false,L_],u_ [h_ false,L_],h_ false])) (aa (fM a) (aa (fM b) (Q (r_ [u_ [h_ (qd a),jm (ao a)],u_ [h_ (qd b),jm (ao b)],h_ true])))))):=U
def L7{a b}(ha:fM a=true)(d:fM b=true)(c:(sr a&&sr b)=true):af PP II 106 [.str a,.str b] (g_ 12) (.ret (.qP [GQ (qd a) (ao a),GQ (qd b) (ao b),.bool true]) (g_ 12)):=by
 simp only[bf]at c
 refine Al (ks:=[Cd,EI]) (T:=[]) ((L6 a b _).mpr ?_)
 rw[c.1,c.2]
 exact Ze ha (Ze d λσ=>⟨⟨rfl,mP σ _,trivial⟩,⟨rfl,mP σ _,trivial⟩,rfl,trivial⟩)
def jn(k:Nat)(f:Nat->List AV):Bool:=cO k f&&w_ k (ar (numOf k f))&&i_ k 80000
def oD{k f}(h:jn k f=true):J_ (λl=>l) (.ab k 1 f) (jm (numOf k f))/\ar (numOf k f)<=80000:=by
 unfold jn at h
 simp only[bf]at h
 have e:=dE h.1.2
 exact⟨tU h.1.1 e,by rw[<-e];exact jX h.2⟩
def EJ{v}(h:ar v<=80000):jn (ar v) (aG v)=true:=by
 unfold jn
 rw[cM,bZ,kV h,ni];rfl
def L8:aC PP II:=aC.pure 112
 (λX args b=>match args with
  |[.ab k 1 f,.ab m 1 g]=>X.bq (jn k f&&jn m g) (b (.int f_ (DA (numOf k f) (numOf m g))))
  |_=>X.fail)
 λX sem hX args b h=>by
  split at h
  ·obtain⟨a,c⟩:=hX.bq _ _ h
   simp only[bf]at a
   obtain⟨a1,a2⟩:=oD a.1
   obtain⟨d,e⟩:=oD a.2
   exact⟨_,c,λ_=>rfl,λ_=>rfl,(GD O).dq ⟨a1,d,trivial⟩⟩
  ·exact zR
def EK:aC PP II:=aC.pure 107
 (λX args b=>match args with
  |[.ab k 1 f,.ab m 1 g]=>X.bq (jn k f&&jn m g&&z_ 0 (numOf m g)) (b (.qP [jm (numOf k f/numOf m g),jm (numOf k f%numOf m g)]))
  |_=>X.fail)
 λX sem hX args b h=>by
  split at h
  ·obtain⟨a,d⟩:=hX.bq _ _ h
   simp only[bf]at a
   obtain⟨a1,a2⟩:=oD a.1.1
   obtain⟨e,i⟩:=oD a.1.2
   have c:=a.2
   rw[Nat.blt_eq]at c
   exact⟨_,d,λ_=>rfl,λ_=>rfl,(GH c (dw _) a2 i).dq ⟨a1,e,trivial⟩⟩
  ·exact zR
def gI(v:Nat):Bool:=i_ (Lib.decDigits v).length 200
def L9:aC PP II:=aC.l8 111
 (λX args c=>match args with
  |[.agg [.bool b,.ab k 1 f]]=>X.bq (jn k f&&gI (numOf k f)) (c (.qP [.str (xO b (numOf k f)),.int f_ 0]))
  |_=>X.fail)
 λX sem hX args c h=>by
  split at h
  ·obtain⟨a,d⟩:=hX.bq _ _ h
   simp only[bf]at a
   obtain⟨a1,a2⟩:=oD a.1
   exact⟨_,d,λ_=>rfl,λ_=>rfl,(GK O (jX a.2)).dq ⟨⟨rfl,a1,trivial⟩,trivial⟩⟩
  ·exact zR
def isNat(s:List UInt8):Bool:=sr s&&fM s && !qd s
def rF{s}(h:isNat s=true):sr s=true/\fM s=true/\qd s=false:=by
 unfold isNat at h
 grind
def Au:aC PP II:=aC.pure 106
 (λX args d=>match args with
  |[.str a,.str b]=>X.bq (isNat a&&isNat b) (d (.qP [GQ false (ao a),GQ false (ao b),.bool true]))
  |_=>X.fail)
 λX sem hX args d h=>by
  split at h
  ·rename_i a b
   obtain⟨c,e⟩:=hX.bq _ _ h
   simp only[bf]at c
   obtain⟨a1,a2,f⟩:=rF c.1
   obtain⟨g,i,j⟩:=rF c.2
   refine⟨_,e,λ_=>rfl,λ_=>rfl,?_⟩
   have:=L7 a2 i (by rw[a1,g];rfl)
   rwa[f,j]at this
  ·exact zR
def Ma(a b)(Q):(kb [Au,L8] [] 47 [.str a,.str b] Q)=(aa (isNat a&&isNat b) (aa (jn (ar (ao a)) (aG (ao a))&&jn (ar (ao b)) (aG (ao b))) (Q (n_ f_ (DA (numOf (ar (ao a)) (aG (ao a))) (numOf (ar (ao b)) (aG (ao b)))))))):=U
def IL(p:Nat×Nat):St:={t:=c_ [(9,jm p.1),(10,jm p.2)],nt:=42,H:={n:=20,t:=c_ [(6,.cells dz (.ex 20))]},df:=[]}
def IM(g:Nat):GE:=.one (.x 0 {t:=c_ [(9,jm g)],nt:=42,H:={n:=20,t:=c_ [(6,.cells dz (.ex 20))]},df:=[]})
def Mb(k l g)(Q):(kr [EK] [] 105 5003 20 IL (λ_=>IM g) (λp=>(p.2,p.1%p.2)) Q (k,l))=(ah (a_ (M (ar l)>0)) (aa (jn (ar k) (aG k)&&jn (ar l) (aG l)&&z_ 0 (numOf (ar l) (aG l))) (zyN (ar l) (zyR (ar l) (aG l) (ax (ar (numOf (ar k) (aG k)%numOf (ar l) (aG l))) (ar (k%l)) (an (ar (numOf (ar k) (aG k)%numOf (ar l) (aG l))) (aG (numOf (ar k) (aG k)%numOf (ar l) (aG l))) (aG (k%l))/\Q))))) (ax (ar k) (ar g) (an (ar k) (aG k) (aG g)/\True))):=U
def TV(a b)(g)(Q):(kp [Au,L9] [(5003,20,IL (ao a,ao b),IM g)] 105 [.str a,.str b] Q)=(aa (isNat a&&isNat b) (eu PP II false (aD II 105 5003) 20 (IL (ao a,ao b)) (IM g)/\zyN (ar (ao a)) (zyR (ar (ao a)) (aG (ao a)) (zyN (ar (ao b)) (zyR (ar (ao b)) (aG (ao b)) (aa (jn (ar g) (aG g)&&gI (numOf (ar g) (aG g))) (Q (r_ [q_ (xO false (numOf (ar g) (aG g))),n_ f_ 0])))))))):=U
def TW(a b)(Q){c}(e:c=(numOf (ar (ao a)) (aG (ao a))/numOf (ar (ao b)) (aG (ao b)))){d}(f:d=(numOf (ar (ao a)) (aG (ao a))%numOf (ar (ao b)) (aG (ao b)))):(kp [Au,EK,L9] [] 46 [.str a,.str b] Q)=(aa (isNat a&&isNat b) (ah (a_ (M (ar (ao b))=0)) (Q (r_ [q_ [],q_ [],n_ f_ 30])) (aa (jn (ar (ao a)) (aG (ao a))&&jn (ar (ao b)) (aG (ao b))&&z_ 0 (numOf (ar (ao b)) (aG (ao b)))) (aa (jn (ar c) (aG c)&&gI (numOf (ar c) (aG c))) (aa (jn (ar d) (aG d)&&gI (numOf (ar d) (aG d))) (Q (r_ [q_ (xO false (numOf (ar c) (aG c))),q_ (xO false (numOf (ar d) (aG d))),n_ f_ 0]))))))):=by subst_vars;kernel_rfl
end
end Go.Sx
