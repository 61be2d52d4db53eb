/- The proof of a statement of the seat, part 18. -/
import Derived.Sort.Grow
import Derived.Test.YtoijalagmmgkbaaGreatDoorX16
import Derived.Test.YtoijalagmmgkbaaGreatDoorX17
import Derived.Lib.SmallJoins
import Derived.Lib.ItoaMem
import Derived.Test.YtoijalagmmgkbaaGreatDoorX11
set_option linter.all false
set_option linter.defProp false
set_option maxRecDepth 1000000
namespace Go.Sx
open Go
open Int renaming ofNat->M,toNat->c_,toNat_of_nonneg->q_
open List renaming length->z,append->e_,length_append->h_,replicate->i_,drop->k_,take->l_,beq->m_,drop_zero->n_,mem_cons_self->r_,map_cons->v_
open Decidable renaming decide->a_
open UInt8 renaming ofNat->b_,toNat->y_
open Tr renaming ofList->d_
open Go.IntKind renaming i64->f_
open AH renaming blank->g_
open Nat renaming ble->j_,beq->s_,div_eq_of_lt->t_,strongRecOn->u_,le_trans->A_,pow_zero->B_,sub_zero->C_,zero_le->E_,div_one->F_
open AV renaming bool->o_,int->p_,str->x_,bK->G_,le->H_
noncomputable section
def dz:List AV:=Lib.pow10Tab.map λa=> .int .u64 a
def HP:AH:={n:=12,t:=d_ [(6,.cells dz (.ex 20))]}
def Ey(cs:List AV)(m:Nat):ai->Bool
 | .cells ds (.ex k)=>py ds cs&&s_ k m
 |_=>false
def sY{cs:List AV}{m:Nat}{b:ai}(h:Ey cs m b=true):b= .cells cs (.ex m):=by
 unfold Ey at h
 split at h
 ·simp only[bf]at h
  rw[qE _ _ h.1,dE h.2]
 ·cases h
def LS(H:AH):Bool:=Ey dz 20 (H.get 6)
def Ap(i:Nat):HP.get i=if i=6 then .cells dz (.ex 20)else .dead:=by
 show AH.get {n:=12,t:=d_ [(6,_)]} i=_
 simp only[AH.get,d_,Tr.bH,Tr.qV]
 by_cases h:i=6<;>simp[h]
def nN(σ:Nat->Nat):bt.bD σ dz=dz:=by
 unfold dz
 generalize Lib.pow10Tab=l
 induction l with
 |nil=>rfl
 |cons a l b=>show bt.bD σ (_::_)=_;simp only[bt.bD,b];rfl
def pz(σ:Nat->Nat):bt.le σ dz dz:=by
 unfold dz
 generalize Lib.pow10Tab=l
 induction l with
 |nil=>trivial
 |cons a l b=>exact⟨⟨rfl,rfl⟩,b⟩
def af.l8{f:FuncId}{args:List AV}{a:AV}{H:AH}(h:af PP II f args HP (.ret a HP))(d:LS H=true)(b:∀σ,bt.bD σ args=args)(ha:∀σ,a.bD σ=a):af PP II f args H (.ret a H):=by
 refine af.SE (I:=II) (H0:=HP) h A (λi hi=>?_) (λi hi c=>?_) b ha
 ·have hi:12<=i:=hi
  rw[Ap,if_neg O]
 ·by_cases e:i=6
  ·subst e
   rw[sY d]
   refine⟨rfl,λσ=>?_⟩
   show ai.cells (bt.bD σ dz) (.ex 20)=_
   rw[nN]
   rfl
  ·rw[Ap,if_neg e]at c;exact absurd A c
def aC.l8(f:FuncId)(spec:{R:Type}->RI R->List AV->(AV->R)->R)
  (ok:∀{R:Type}(X:RI R)(sem:R->Prop),X.Ok sem->∀args c,sem (spec X args c)->∃a,sem (c a)/\(∀σ,a.bD σ=a)/\(∀σ,bt.bD σ args=args)/\af PP II f args HP (.ret a HP)):aC PP II where
 f:=f
 spec X args H c _:=jK X 100000 args H λb H'=>X.ak (LS H') (spec X b λa=>c a H')
 ok X sem hX args H c kp h:=by
  obtain⟨b,H',d,i⟩:=gC hX _ _ _ _ h
  obtain⟨j,d⟩:=hX.ak _ _ d
  obtain⟨a,k1,k2,l,m⟩:=ok X sem hX _ _ d
  exact⟨.ret a H',k1,(m.l8 j l k2).nI i⟩
abbrev kp(ks:List (aC PP II))(T:lI)(f:FuncId)(args:List AV)(Q:AV->Prop):Prop :=
 jE ks (mG PP II T) 1000 f args HP (λa H=>qC RI.jY 100000 a H λa' H2=>B (j_ 12 H2.n&&LS H2) (Q a')) (λ_ _=>False)
def kz{ks:List (aC PP II)}{T:lI}{f:FuncId}{args:List AV}{a':AV}(h:kp ks T f args (λa=> ∀σ,H_ σ a a')):af PP II f args HP (.ret a' HP):=by
 obtain⟨o,c,d⟩:=fJ iw ks (bm PP II T) 1000 f args HP _ _ h
 cases o with
 |ret a H1=>
  obtain⟨x,H2,k1,k2⟩:=lm RI.dJ _ _ _ _ c
  obtain⟨b,k1⟩:=Zk k1
  have k1:∀σ,H_ σ x a':=k1
  simp only[bf]at b
  refine(d.vW k2).le (ky.of [] (im.of (by rfl) A A A b.1 (gS.2 λl hl=>?_)) (k1 _))
  rw[Ap]
  by_cases e:l=6
  ·subst e
   rw[if_pos A]
   have g:sig HP.n [] H2.n 6=6:=rfl
   have:=jX b.1
   show if sig HP.n [] H2.n 6<H2.n then ai.le (sig HP.n [] H2.n) (H2.get (sig HP.n [] H2.n 6)) (ai.cells dz (.ex 20))else _
   rw[g,if_pos O,sY b.2]
   exact⟨pz _,rfl⟩
  ·rw[if_neg e];trivial
 |qt a H1=>exact c.elim
def IC{c:fw}{ρ:Env}{w:World}(h:Rel c ρ HP w)(hG:c.G=II.G):Lib.TabIs PP w "internal/strconv.uint64pow10" .u64 Lib.pow10Tab:=by
 have d:=h.dF 6
 rw[Ap,if_pos A]at d
 obtain⟨N,i⟩:=h.fp 6 (by rw[hG];show 6<12;omega)
 rw[i]at d
 rcases d with⟨_,d⟩|⟨b,r,vs,rest,el,fr,h1,j,k,g,m,_⟩
 ·cases d
 ·cases h1
  have hl:N=20:=m.ex 20 A
  have n:vs.length=20:=by rw[<-g.length_eq];rfl
  have o:rest=[]:=by
   rw[h_]at k
   exact List.eq_nil_of_length_eq_zero O
  subst o
  have e:vs=Lib.pow10Tab.map λa=>Value.int .u64 a:=by
   have:∀(l:List Int)(vs:List Value),aU ρ (l.map λa=>p_ .u64 a) vs->vs=l.map λa=>Value.int .u64 a:=by
    intro l
    induction l with
    |nil=>intro vs h;exact h
    |cons a l p=>
     intro vs h
     obtain⟨u,us,rfl,f,q⟩:=h
     rw[p us q]
     have f:u= .int .u64 a:=f
     rw[f];rfl
   exact this _ _ g
  unfold Lib.TabIs World.var?
  rw[show PP.globalNamed "internal/strconv.uint64pow10" =Option.some (ux 6)from Go.Proofs.Tryz.Ca.m17]
  show(match w.heap[ux 6]? with|some (.cells cs _ _)=>Option.some cs|_=>Option.none)=_
  rw[j,e,List.append_nil]
def Ez(w:World)(k:Nat)(os:Array Obj):RowKit.Below w.heap.size w (Sort.grow (w.drewN k) os):=
 ⟨rfl,rfl,rfl,by show _<=(w.heap++os).size;simp,λi hi=>by show(w.heap++os)[i]? =_;rw[Array.getElem?_append_left hi]⟩
def GI{n:Int}(b : -9223372036854775808<=n)(d:n<=9223372036854775807):af PP II 164 [.int f_ n] HP (.ret (.str (Lib.itoa n)) HP):=
 af.oB (λvs w=>Go.Proofs.enters_of Go.Proofs.Tryz.func164 U A vs w) λc ρ w vs hG f g=>by
  obtain⟨u,us,rfl,a,rfl⟩:=f
  have a:u= .int f_ n:=a
  subst a
  refine(Go.Proofs.Any.strconv_Itoa Go.Proofs.Tryz.Ca n b d w (IC g hG)).mono ?_
  rintro e w' ⟨rfl,k,os,rfl⟩
  exact⟨_,rfl,rfl,Ez w k os⟩
def Cb:aC PP II:=aC.l8 164
 (λX args b=>match args with
  |[.int f_ n]=>X.ak (aN f_ n) (b (.str (Lib.itoa n)))
  |_=>X.fail)
 λX sem hX args b h=>by
  split at h
  ·obtain⟨a,c⟩:=hX.ak _ _ h
   rw[nK]at a
   exact⟨_,c,λ_=>rfl,λ_=>rfl,GI a.1 a.2⟩
  ·exact zR
def iX(s:List UInt8):Bool:=match Lib.atoiAll s with| .ok _=>true|_=>false
def bl(s:List UInt8):Int:=match Lib.atoiAll s with| .ok v=>v|_=>0
def ID{s:List UInt8}(h:iX s=true):Lib.atoiAll s= .ok (bl s):=by
 unfold iX at h
 unfold bl
 split at h
 ·rename_i v a;rw[a]
 ·cases h
def P7{s:List UInt8}(h:iX s=true)(hl:s.length<=1000000):af PP II 131 [.str s] (g_ 12) (.ret (.bK [.int f_ (bl s),.nilIface]) (g_ 12)):=
 af.oB (λvs w=>Go.Proofs.enters_of Go.Proofs.Tryz.func131 U A vs w) λc ρ w vs hG b d=>by
  obtain⟨u,us,rfl,a,rfl⟩:=b
  have a:u= .string ⟨s.toArray⟩:=a
  subst a
  refine(Go.Proofs.Any.strconv_Atoi_ok Go.Proofs.Tryz.LQ ⟨s.toArray⟩ (by show s.toArray.size<=_;simp;omega) (bl s) (ID h) w).mono ?_
  rintro e w' ⟨rfl,hw⟩
  refine⟨_,rfl,?_,?_⟩
  ·simp only[VR,aU];exact⟨[.int f_ (bl s),.nilIface],rfl,_,_,rfl,rfl,_,_,rfl,rfl,rfl⟩
  ·rcases hw with rfl|⟨t,rfl⟩
   ·exact RowKit.Below.refl _ _
   ·exact Joins.below_bytesWorld _ _ _ _ (dw _)
def Cc:aC PP II:=aC.pure 131
 (λX args b=>match args with
  |[.str s]=>X.ak (iX s&&j_ s.length 1000000) (b (.bK [.int f_ (bl s),.nilIface]))
  |_=>X.fail)
 λX sem hX args b h=>by
  split at h
  ·obtain⟨a,c⟩:=hX.ak _ _ h
   simp only[bf]at a
   exact⟨_,c,λ_=>rfl,λ_=>rfl,P7 a.1 (jX a.2)⟩
  ·exact zR
def qG:List UInt8:=[48,49,50,51,52,53,54,55,56,57]
def yH(s:List UInt8):List UInt8:=Lib.trimS s qG
def LU{s:List UInt8}(hl:s.length<=1000000):af PP II 211 [.str s,.str qG] (g_ 12) (.ret (.str (yH s)) (g_ 12)):=
 af.oB (λvs w=>Go.Proofs.enters_of Go.Proofs.Tryz.func211 U A vs w) λc ρ w vs hG d h=>by
  obtain⟨u,us,rfl,a,f,g,rfl,b,rfl⟩:=d
  have a:u= .string ⟨s.toArray⟩:=a
  have b:f= .string ⟨qG.toArray⟩:=b
  subst a b
  refine(Go.Proofs.Any.strings_Trim_laid Go.Proofs.Tryz.LR U ⟨s.toArray⟩ ⟨qG.toArray⟩ w (by show s.toArray.size<=_;simp;omega) zC (Go.Proofs.ascii_of_all zC)).mono ?_
  rintro e w' ⟨rfl,hw⟩
  exact⟨_,rfl,rfl,hw⟩
def EA:aC PP II:=aC.pure 211
 (λX args a=>match args with
  |[.str s,.str [48,49,50,51,52,53,54,55,56,57]]=>X.ak (j_ s.length 1000000) (a (.str (yH s)))
  |_=>X.fail)
 λX sem hX args a h=>by
  split at h
  ·obtain⟨b,c⟩:=hX.ak _ _ h
   exact⟨_,c,λ_=>rfl,λ_=>rfl,LU (jX b)⟩
  ·exact zR
def gE(n:Nat):List UInt8:=i_ n 48
def LV:Go.Proofs.Builder.Extra PP Go.Proofs.Tryz.oC where
 sizeBuilder:=U
 liesBuilder:=U
 t5:=Go.Proofs.Tryz.underlying5
 a5:=Go.Proofs.Tryz.isAgg5
 z5:=Go.Proofs.Tryz.sizeOf5
 v5:=Go.Proofs.Tryz.zeroValue5
 infoByte:=U
 cellsByte:=U
 sizeByte:=U
 neB5:=zC
def repeatL_one:∀n,Lib.repeatL [48] n=i_ n 48
 |0=>rfl
 |n+1=>by rw[Lib.repeatL,repeatL_one n];rfl
def TS{n:Nat}(hl:n<=1000000):af PP II 165 [.str [48],.int f_ n] (g_ 12) (.ret (.str (gE n)) (g_ 12)):=
 af.oB (λvs w=>Go.Proofs.enters_of Go.Proofs.Tryz.func165 U A vs w) λc ρ w vs hG d h=>by
  obtain⟨u,us,rfl,a,f,g,rfl,b,rfl⟩:=d
  have a:u= .string ⟨#[48]⟩:=a
  have b:f= .int f_ n:=b
  subst a b
  refine(Go.Proofs.Any.strings_Repeat Go.Proofs.Tryz.Ex LV ⟨#[48]⟩ n w O (by show 1*n<=_;omega)).mono ?_
  rintro e w' ⟨rfl,hw⟩
  refine⟨_,rfl,?_,hw⟩
  show Value.string ⟨(Lib.repeatL [48] n).toArray⟩=_
  rw[repeatL_one];rfl
def uV:aC PP II:=aC.pure 165
 (λX args a=>match args with
  |[.str [48],.int f_ n]=>X.ak (a_ (0<=n)&&a_ (n<=1000000)) (a (.str (gE n.toNat)))
  |_=>X.fail)
 λX sem hX args a h=>by
  split at h
  ·rename_i n
   obtain⟨b,c⟩:=hX.ak _ _ h
   simp only[bf,bn]at b
   refine⟨_,c,λ_=>rfl,λ_=>rfl,?_⟩
   have:=TS (n:=n.toNat) O
   rwa[q_ b.1]at this
  ·exact zR
def WD(b:Bool)(k v:Nat)(a:Option (List UInt8)):AH:=match a with
 |none=>{n:=17,t:=d_ [(6,.cells dz (.ex 20)),(12,.cells [.bool b,.ab k 1 (aG v)] (.ty 184)),(13,.cells [.nilPtr,.aw] (.ty 241)),(14,.cells [.ab k 1 (aG v)] (.ty 182)),(15,.tE),(16,.loop .ready none (d_ [(1,.ptr 12 0 0 0),(4,.ptr 13 0 0 0)]) 43 [16,17] (bg II 111) (bh II 111) 15)]}
 |some s=>{n:=18,t:=d_ [(6,.cells dz (.ex 20)),(12,.cells [.bool b,.ab k 1 (aG v)] (.ty 184)),(13,.cells [.ptr 13 0 0 0,.own 17 s.length 1] (.ty 241)),(14,.cells [.ab k 1 (aG v)] (.ty 182)),(15,.tE),(16,.loop .ready none (d_ [(1,.ptr 12 0 0 0),(4,.ptr 13 0 0 0)]) 43 [16,17] (bg II 111) (bh II 111) 15),(17,.str s (.ty 5))]}
def EB(b:Bool)(k v:Nat)(C:Int->List UInt8)(i:Bool×Int):St:={t:=d_ [(0,.yield 16),(1,.ptr 14 0 0 0),(3,.int f_ i.2)],nt:=19,H:=WD b k v (match i.1 with|false=>Option.none|true=>Option.some (C i.2)),df:=[]}
def Aq(b:Bool)(k v:Nat)(r:List UInt8):GE:=.one (.x 0 {t:=.e,nt:=19,H:=WD b k v (some r),df:=[]})
def EC(b)(k v)(C)(r)(j)(Q){a}(e:a=(Lib.itoa (aO v j.toNat))){c}(f:c=(gE (c_ (4-M (z a))))){d}(g:d=(b=b/\zyN k (zyR k (aG v) (zyI (j-1) Q)))):(kr [Cb,uV,bU] [] 212 1002 17 (EB b k v C) (λ_=>Aq b k v r) (λi=>(true,i.2-1)) Q (false,j))=(ah (a_ (j>=0)) (B (a_ (0<=j)&&a_ (j<M k)) (B (aN f_ (aO v j.toNat)) (B (aN f_ (M k-1)) (ah (a_ (j<M k-1)) (B (aN f_ (4-M (z a))) (B (a_ (0<=4-M (z a))&&a_ (4-M (z a)<=1000000)) (B (a_ (z c+z a<=9223372036854775807)) (B (a_ ((0+z (e_ c a))*1<=140737488355328)&&true) (B (aN f_ (j-1)) (bI (e_ c a) (C (j-1)) (aT (bg II 111) (bg II 111)/\aT (bh II 111) (bh II 111)/\zyN k (zyR k (aG v) (ax (z (e_ c a)) (z (C (j-1))) d))))))))) (B (a_ ((0+z a)*1<=140737488355328)&&true) (B (aN f_ (j-1)) (bI a (C (j-1)) (aT (bg II 111) (bg II 111)/\aT (bh II 111) (bh II 111)/\zyN k (zyR k (aG v) (ax (z a) (z (C (j-1))) d)))))))))) (bI r [] (aT (bg II 111) (bg II 111)/\aT (bh II 111) (bh II 111)/\zyN k (zyR k (aG v) False)))):=by subst_vars;kernel_rfl
def wo(b)(k v)(C)(r)(j)(Q){a}(g:a=(Lib.itoa (aO v j.toNat))){c}(h:c=(gE (c_ (4-M (z a))))){d}(l:d=(b=b/\zyN k (zyR k (aG v) (zyI (j-1) Q)))){e}(m:e=(a_ (z (C j)=z (C j))&&true)){f}(n:f=(z (C j)+z (e_ c a))):(kr [Cb,uV,bU] [] 212 1002 17 (EB b k v C) (λ_=>Aq b k v r) (λi=>(true,i.2-1)) Q (true,j))=(ah (a_ (j>=0)) (B (a_ (0<=j)&&a_ (j<M k)) (B (aN f_ (aO v j.toNat)) (B (aN f_ (M k-1)) (ah (a_ (j<M k-1)) (B (aN f_ (4-M (z a))) (B (a_ (0<=4-M (z a))&&a_ (4-M (z a)<=1000000)) (B (a_ (z c+z a<=9223372036854775807)) (B (a_ (z (C j)<=z (C j))&&true&&true&&a_ (f*1<=140737488355328)&&e) (B (aN f_ (j-1)) (bI (e_ (C j) (e_ c a)) (C (j-1)) (aT (bg II 111) (bg II 111)/\aT (bh II 111) (bh II 111)/\zyN k (zyR k (aG v) (ax f (z (C (j-1))) d))))))))) (B (a_ (z (C j)<=z (C j))&&true&&true&&a_ ((z (C j)+z a)*1<=140737488355328)&&e) (B (aN f_ (j-1)) (bI (e_ (C j) a) (C (j-1)) (aT (bg II 111) (bg II 111)/\aT (bh II 111) (bh II 111)/\zyN k (zyR k (aG v) (ax (z (C j)+z a) (z (C (j-1))) d)))))))))) (bI (C j) r (aT (bg II 111) (bg II 111)/\aT (bh II 111) (bh II 111)/\zyN k (zyR k (aG v) (ax (z (C j)) (z r) (b=b/\zyN k (zyR k (aG v) True))))))):=by subst_vars;kernel_rfl
def P8(b)(k v)(C)(r)(Q):(kp [Cb,uV,bU] [(1002,17,EB b k v C (false,M k-1),Aq b k v r)] 111 [.agg [.bool b,.ab k 1 (aG v)]] Q)=(ah (a_ (M k=0)) (Q (G_ [x_ [48],p_ f_ 0])) (B (aN f_ (M k-1)) (aE PP II false (aD II 212 1002) 17 (EB b k v C (false,M k-1)) (Aq b k v r)/\aT (bg II 111) (bg II 111)/\aT (bh II 111) (bh II 111)/\zyN k (zyR k (aG v) (b=b/\zyN k (zyR k (aG v) (zyI (M k-1) (B (a_ (0<z r)) (B (a_ (z r=z r)&&true) (B (a_ (M (z r)=M (z r))) (B (a_ (c_ (M (z r))=z r)&&true&&true&&a_ (0<M (z r))&&a_ (M (z r)<=9223372036854775807)&&true) (ah (a_ (M (z r)>200)) (Q (G_ [x_ [],p_ f_ 30])) (ah b (B (a_ (1+z r<=9223372036854775807)) (Q (G_ [x_ (45::r),p_ f_ 0]))) (Q (G_ [x_ r,p_ f_ 0]))))))))))))))):=U
def lx{x d:Nat}(hx:0<x)(c:d<10):Lib.decDigits (x*10+d)=Lib.decDigits x++[b_ (48+d)]:=by
 rw[Lib.decDigits,dif_neg (by omega)]
 have a:(x*10+d)/10=x:=by omega
 have b:(x*10+d)%10=d:=by omega
 rw[a,b]
def IE{x a b c d:Nat}(hx:0<x)(ha:a<10)(f:b<10)(g:c<10)(h:d<10):
  Lib.decDigits (x*10000+(a*1000+b*100+c*10+d))=Lib.decDigits x++[b_ (48+a),b_ (48+b),b_ (48+c),b_ (48+d)]:=by
 have e:x*10000+(a*1000+b*100+c*10+d)=(((x*10+a)*10+b)*10+c)*10+d:=by omega
 rw[e,lx (by omega) h,lx (by omega) g,lx (by omega) f,lx hx ha]
 simp
def rB{l:Nat}(hl:l<10000):i_ (4-(Lib.decDigits l).length) 48++Lib.decDigits l=[b_ (48+l/1000),b_ (48+l/100%10),b_ (48+l/10%10),b_ (48+l%10)]/\(Lib.decDigits l).length<=4/\0<(Lib.decDigits l).length:=by
 by_cases h1:l<10
 ·have e:l/1000=0:=by omega
  have f:l/100%10=0:=by omega
  have g:l/10%10=0:=by omega
  have h:l%10=l:=by omega
  rw[e,f,g,h,Lib.decDigits_one h1]
  exact⟨rfl,by simp,by simp⟩
 ·obtain⟨x,d,i,rfl,hx⟩:∃x d,d<10/\l=x*10+d/\0<x:=⟨l/10,l%10,by omega,by omega,by omega⟩
  have h:(x*10+d)%10=d:=by omega
  have g:(x*10+d)/10%10=x%10:=by omega
  have f:(x*10+d)/100%10=x/10%10:=by omega
  have e:(x*10+d)/1000=x/100:=by omega
  rw[e,f,g,h,lx hx i]
  by_cases j:x<10
  ·have f1:x/100=0:=by omega
   have k:x/10%10=0:=by omega
   have m:x%10=x:=by omega
   rw[f1,k,m,Lib.decDigits_one j]
   exact⟨rfl,by simp,by simp⟩
  ·obtain⟨y,c,n,rfl,o⟩:∃y c,c<10/\x=y*10+c/\0<y:=⟨x/10,x%10,by omega,by omega,by omega⟩
   have g3:(y*10+c)%10=c:=by omega
   have g2:(y*10+c)/10%10=y%10:=by omega
   have g1:(y*10+c)/100=y/10:=by omega
   rw[g1,g2,g3,lx o n]
   by_cases p:y<10
   ·have k1:y/10=0:=by omega
    have k2:y%10=y:=by omega
    rw[k1,k2,Lib.decDigits_one p]
    exact⟨rfl,by simp,by simp⟩
   ·obtain⟨a,b,q,rfl,r⟩:∃a b,b<10/\y=a*10+b/\0<a:=⟨y/10,y%10,by omega,by omega,by omega⟩
    have s:(a*10+b)%10=b:=by omega
    have t:(a*10+b)/10=a:=by omega
    rw[t,s,lx r q,Lib.decDigits_one (show a<10 by omega)]
    exact⟨rfl,by simp,by simp⟩
def yI{x l:Nat}(hx:0<x)(hl:l<10000):Lib.decDigits (l+10000*x)=Lib.decDigits x++(i_ (4-(Lib.decDigits l).length) 48++Lib.decDigits l):=by
 rw[(rB hl).1]
 have e:l+10000*x=x*10000+(l/1000*1000+l/100%10*100+l/10%10*10+l%10):=by omega
 rw[e,IE hx (by omega) (by omega) (by omega) (by omega)]
def rC(l:Nat):Lib.itoa (M l)=Lib.decDigits l:=Lib.itoa_nonneg l
def aT.same(a):aT a a:=rfl
def DE(v:Nat)(j:Int):List UInt8:=Lib.decDigits (v/10000^(j+1).toNat)
def GJ{v}(c:(Lib.decDigits v).length<=200)(j):(DE v j).length<=200:=by
 refine A_ ?_ c
 unfold DE
 rw[Lib.decDigits_length,Lib.decDigits_length]
 have mono:∀(a b:Nat),a<=b->Lib.nDigits a<=Lib.nDigits b:=by
  intro a
  induction a using u_ with
  |_ a d=>
   intro b e
   by_cases h:a<10
   ·rw[Lib.nDigits_small h];exact Lib.nDigits_pos b
   ·rw[Lib.nDigits_big h,Lib.nDigits_big (O:¬ b<10)]
    have:=d (a/10) O (b/10) O
    omega
 exact mono _ _ (Nat.div_le_self _ _)
def LW{v n}(hn:n+1=ar v):Lib.itoa (aO v n)=DE v (M n-1):=by
 have e:(M n-1+1).toNat=n:=by show((n:Int)-1+1).toNat=_;omega
 unfold DE
 rw[e]
 show Lib.itoa (M (bF v n))=_
 rw[rC,fZ,hn,t_ (fY v)];rfl
def P9{v n}(hn:n+1<ar v):e_ (DE v (M n)) (e_ (gE (c_ (4-M (Lib.itoa (aO v n)).length))) (Lib.itoa (aO v n)))=DE v (M n-1):=by
 have e:(M n-1+1).toNat=n:=by show((n:Int)-1+1).toNat=_;omega
 have b:(M n+1).toNat=n+1:=by show((n:Int)+1).toNat=_;omega
 have hi:Lib.itoa (aO v n)=Lib.decDigits (bF v n):=rC _
 unfold DE
 rw[e,b,hi,fZ v n]
 have a:0<v/10000^(n+1):=by
  refine Nat.pos_of_ne_zero λh=>?_
  rcases Nat.div_eq_zero_iff.1 h with h|h
  ·grind
  ·have:=eh _ _ h;omega
 have hl:=(rB (kN v n)).2.1
 rw[yI a (kN v n)]
 have c:c_ (4-M (Lib.decDigits (bF v n)).length)=4-(Lib.decDigits (bF v n)).length:=by
  show c_ (4-((Lib.decDigits (bF v n)).length:Int))=_
  omega
 rw[c]
 rfl
def IF{b v}(G:0<ar v)(H:ar v<=1000000)(q:(Lib.decDigits v).length<=200):aE PP II false (aD II 212 1002) 17 (EB b (ar v) v (DE v) (false,M (ar v)-1)) (Aq b (ar v) v (Lib.decDigits v)):=
 aE.of (ι:=Bool×Int) iw [Cb,uV,bU] (bm PP II []) 1000 17 (λp=> -1<=p.2/\p.2<M (ar v)/\(p.1=false->p.2=M (ar v)-1)/\(p.1=true->p.2<M (ar v)-1)) (EB b (ar v) v (DE v)) (λ_=>Aq b (ar v) v (Lib.decDigits v)) (λp=>(p.2+1).toNat) (λp=>(true,p.2-1)) (false,M (ar v)-1) A
  ⟨Y,O,λ_=>rfl,λh=>zE⟩ λp r=>by
  obtain⟨l,j⟩:=p
  obtain⟨s,g,t,u⟩:=r
  change -1<=j at s
  change j<M (ar v)at g
  by_cases m:0<=j
  ·obtain⟨n,rfl⟩:∃n:Nat,j=M n:=⟨j.toNat,(q_ m).symm⟩
   have w:(n:Int)<(ar v:Int):=g
   have a:(a_ (0<=M n)&&a_ (M n<M (ar v)))=true:=nM m g
   have c:aN f_ (aO v n)=true:=by have:=ry v n;exact aq (by show _<=M (bF v n);omega) (by show M (bF v n)<=_;omega)
   have d:aN f_ (M (ar v)-1)=true:=aq O Y
   have f:aN f_ (M n-1)=true:=aq O Y
   obtain⟨x,i,y⟩:=rB (kN v n)
   have hl:(Lib.itoa (aO v n)).length<=4:=by rw[show Lib.itoa (aO v n)=_ from rC _];exact i
   have o:(-1<=M n-1/\M n-1<M (ar v)/\(true=false->M n-1=M (ar v)-1)/\(true=true->M n-1<M (ar v)-1))/\(M n-1+1).toNat<(M n+1).toNat/\(Aq b (ar v) v (Lib.decDigits v)).pick=(Aq b (ar v) v (Lib.decDigits v)).pick :=
    Y
   cases l with
   |false=>
    have hn:n+1=ar v:=by have:=t A;change (n:Int)=(ar v:Int)-1 at this;omega
    refine(EC b (ar v) v (DE v) (Lib.decDigits v) (M n) _ A A A).mpr ?_
    rw[show c_ (M n)=n from rfl]
    with_reducible refine Zh (λ_=>Ze a (Ze c (Ze d (Zh (λh=>?_) λ_=>?_)))) (λh=>?_)
    grind
    ·have e:=LW hn
     exact Ze Y (Ze f (Zi e ⟨rfl,rfl,YG A ⟨dm _ _,YG (by rw[e]) ⟨rfl,YG A ⟨dm _ _,Zf A o⟩⟩⟩⟩))
    grind
   |true=>
    have hn:n+1<ar v:=by have:=u A;change (n:Int)<(ar v:Int)-1 at this;omega
    refine(wo b (ar v) v (DE v) (Lib.decDigits v) (M n) _ A A A A A).mpr ?_
    rw[show c_ (M n)=n from rfl]
    have e:=P9 hn
    have I:=GJ q (M n)
    have C:(gE (c_ (4-M (Lib.itoa (aO v n)).length))).length<=4:=by
     show(i_ _ _).length<=4
     rw[List.length_replicate]
     show c_ (4-((Lib.itoa (aO v n)).length:Int))<=4
     omega
    have D:(e_ (gE (c_ (4-M (Lib.itoa (aO v n)).length))) (Lib.itoa (aO v n))).length<=8:=by
     rw[List.append_eq,h_];omega
    with_reducible refine Zh (λ_=>Ze a (Ze c (Ze d (Zh (λ_=>?_) λh=>?_)))) (λh=>?_)
    ·have E:0<=(gE (c_ (4-M (Lib.itoa (aO v n)).length))).length:=E_ _
     refine Ze (aq Y Y) (Ze Y (Ze Y (Ze ?_ (Ze f (Zi e ⟨rfl,rfl,YG A ⟨dm _ _,YG ?_ ⟨rfl,YG A ⟨dm _ _,Zf A o⟩⟩⟩⟩)))))
     grind
     ·rw[<-e];simp
    all_goals grind
  ·have k:j= -1:=by omega
   have F:DE v j=Lib.decDigits v:=by rw[k];show Lib.decDigits (v/10000^0)=_;rw[B_,F_]
   cases l with
   |false=>grind
   |true=>
    refine(wo b (ar v) v (DE v) (Lib.decDigits v) j _ A A A A A).mpr ?_
    rw[F]
    with_reducible refine Zh (λh=>?_) (λ_=>?_)
    grind
    ·exact Zi A ⟨rfl,rfl,YG A ⟨dm _ _,YG A ⟨rfl,YG A ⟨dm _ _,trivial⟩⟩⟩⟩
def xO(b:Bool)(v:Nat):List UInt8:=bif s_ v 0 then [48]else bif b then 45::Lib.decDigits v else Lib.decDigits v
def GK{b:Bool}{v:Nat}(d:ar v<=1000000)(f:(Lib.decDigits v).length<=200):af PP II 111 [.agg [.bool b,jm v]] HP (.ret (.bK [.str (xO b v),.int f_ 0]) HP):=by
 refine kz (T:=[(1002,17,EB b (ar v) v (DE v) (false,M (ar v)-1),Aq b (ar v) v (Lib.decDigits v))]) ((P8 b (ar v) v (DE v) (Lib.decDigits v) _).mpr ?_)
 have g:=Lib.nDigits_pos v
 rw[<-Lib.decDigits_length]at g
 with_reducible refine Zh (λh=>?_) (λh=>Ze ?_ ⟨?_,aT.same _,aT.same _,YG A ⟨dm _ _,rfl,YG A ⟨dm _ _,Zf A (Ze ?_ (Ze ?_ (Ze ?_ (Ze ?_ (Zh (λj=>?_) (λ_=>Zh (λc=>Ze ?_ ?_) (λc=>?_)))))))⟩⟩⟩)
 ·have h:=pT h
  have i:ar v=0:=Int.ofNat.inj h
  have a:v=0:=by have:=fY v;rw[i]at this;simpa using this
  subst a
  exactλσ=>⟨rfl,⟨rfl,rfl⟩,trivial⟩
 ·exact aq Y Y
 ·have h:=of_decide_eq_false h
  have h :¬ (ar v:Int)=0:=h
  exact IF O d f
 grind
 ·simp
 ·simp
 grind
 grind
 grind
 all_goals
  have h:=of_decide_eq_false h
  have a:s_ v 0=false:=by
   rw[Bool.eq_false_iff];intro e
   have:=dE e
   subst this
   exact h (by rw[eS];rfl)
  subst c
  intro σ
  refine⟨?_,⟨rfl,rfl⟩,trivial⟩
  show _=xO _ v
  unfold xO
  rw[a];rfl
def tU{k f}(h:cO k f=true)(a:k=ar (numOf k f)):H_ (λl=>l) (.ab k 1 f) (jm (numOf k f)):=⟨a,rfl,(gT h).2.2⟩
def WE:aC PP II:=aC.l8 111
 (λX args a=>match args with
  |[.agg [.bool b,.ab k 1 f]]=>X.ak (cO k f&&s_ k (ar (numOf k f))&&j_ k 1000000&&j_ (Lib.decDigits (numOf k f)).length 200) (a (.bK [.str (xO b (numOf k f)),.int f_ 0]))
  |_=>X.fail)
 λX sem hX args a h=>by
  split at h
  ·rename_i b k f
   obtain⟨c,d⟩:=hX.ak _ _ h
   simp only[bf]at c
   obtain⟨⟨⟨a1,a2⟩,e⟩,a4⟩:=c
   have g:=dE a2
   have i:=jX e
   exact⟨_,d,λ_=>rfl,λ_=>rfl,(GK (b:=b) O (jX a4)).dq ⟨⟨rfl,tU a1 g,trivial⟩,trivial⟩⟩
  ·exact zR
def eJ(s:List UInt8):List UInt8:=Lib.trimPrefix s [45]
def LX(s:List UInt8):af PP II 210 [.str s,.str [45]] (g_ 12) (.ret (.str (eJ s)) (g_ 12)):=
 af.oB (λvs w=>Go.Proofs.enters_of Go.Proofs.Tryz.func210 U A vs w) λc ρ w vs hG d h=>by
  obtain⟨u,us,rfl,a,f,g,rfl,b,rfl⟩:=d
  have a:u= .string ⟨s.toArray⟩:=a
  have b:f= .string ⟨#[45]⟩:=b
  subst a b
  refine(Go.Proofs.Any.strings_TrimPrefix Go.Proofs.Tryz.wm ⟨s.toArray⟩ ⟨#[45]⟩ w).mono ?_
  rintro e w' ⟨rfl,rfl⟩
  exact⟨_,rfl,rfl,RowKit.Below.refl _ _⟩
def ED:aC PP II:=aC.pure 210
 (λX args a=>match args with
  |[.str s,.str [45]]=>a (.str (eJ s))
  |_=>X.fail)
 λX sem hX args a h=>by
  split at h
  ·exact⟨_,h,λ_=>rfl,λ_=>rfl,LX _⟩
  ·exact zR
def GL(s:List UInt8):Int:=M (y_ (s.getD 0 0))
def EE(s:List UInt8)(Q:AV->Prop):(kb [ED,EA] [] 153 [.str s] Q)=(ah (m_ (eJ s) []) (Q (o_ false)) (ah (a_ (M (z (eJ s))>200)) (Q (o_ false)) (B (j_ (z (eJ s)) 1000000) (ah (!List.beq (yH (eJ s)) []) (Q (o_ false)) (ah (m_ s [48]) (Q (o_ true)) (B (a_ (0<M (z (eJ s)))) (Q (o_ !decide (M (y_ (Option.getD (List.get?Internal (eJ s) 0) 0))=48))))))))):=U
def sr(s:List UInt8):Bool:=match m_ (eJ s) []with
 |true=>false
 |false=>match a_ (M (eJ s).length>200)with
  |true=>false
  |false=>match !List.beq (yH (eJ s)) []with
   |true=>false
   |false=>match m_ s [48]with
    |true=>true
    |false=>!decide (GL (eJ s)=48)
def wq(s:List UInt8):af PP II 153 [.str s] (g_ 12) (.ret (.bool (sr s)) (g_ 12)):=by
 refine bY (ks:=[ED,EA]) (T:=[]) (λ_=>rfl) ((EE s _).mpr ?_)
 unfold sr
 with_reducible refine Zh (λh=>?_) λh=>Zh (λa=>?_) λa=>Ze ?_ (Zh (λd=>?_) λd=>Zh (λb=>?_) λb=>Ze ?_ ?_)
 ·rw[h]
 ·rw[h,a]
 ·have a:=of_decide_eq_false a
  have a :¬ ((eJ s).length:Int)>200:=a
  exact kV O
 ·rw[h,a,d]
 ·have b:s.beq [48]=true:=b
  rw[h,a,d,b]
 ·refine bW ?_
  cases ht:eJ s with
  |nil=>rw[ht]at h;cases h
  |cons c r=>show(0:Int)<((r.length+1:Nat):Int);omega
 ·have b:s.beq [48]=false:=b
  rw[h,a,d,b];rfl
def Cd:aC PP II:=aC.pure 153
 (λX args a=>match args with
  |[.str s]=>a (.bool (sr s))
  |_=>X.fail)
 λX sem hX args a h=>by
  split at h
  ·exact⟨_,h,λ_=>rfl,λ_=>rfl,wq _⟩
  ·exact zR
def EF(neg:Bool)(D:Nat->List UInt8)(W:Nat->Int)(i:Bool×Nat):St:=match i.1 with
 |false=>{t:=d_ [(2,.ptr 12 0 0 0),(3,.str (D 0)),(4,.ptr 13 0 0 0)],nt:=44,H:={n:=14,t:=d_ [(12,.cells [.bool false,.aw] (.ty 184)),(13,.cells [.bool neg,.aw] (.ty 184))]},df:=[]}
 |true=>{t:=d_ [(2,.ptr 12 0 0 0),(3,.str (D i.2)),(4,.ptr 13 0 0 0)],nt:=44,H:={n:=15,t:=d_ [(12,.cells [.bool false,.aw] (.ty 184)),(13,.cells [.bool neg,.own 14 i.2 1] (.ty 184)),(14,.rows i.2 1 (ae W) (.ty 3))]},df:=[]}
def Ar(neg:Bool)(W:Nat->Int)(L:Nat):GE:=.one (.x 0 {t:=d_ [(2,.ptr 12 0 0 0),(4,.ptr 13 0 0 0)],nt:=44,H:={n:=15,t:=d_ [(12,.cells [.bool false,.aw] (.ty 184)),(13,.cells [.bool neg,.own 14 L 1] (.ty 184)),(14,.rows L 1 (ae W) (.ty 3))]},df:=[]})
def Ce(neg:Bool)(D:Nat->List UInt8)(W:Nat->Int)(L:Nat)(Q:Prop){a}(c:a=(if M (z (D 0))-4>0 then M (z (D 0))-4 else 0)){b}(d:b=(l_ (c_ (M (z (D 0)))-a.toNat) (k_ a.toNat (D 0)))):(kr [Cc] [] 154 3003 14 (EF neg D W) (λ_=>Ar neg W L) (λi=>(true,i.2+1)) Q (false,0))=(ah (a_ (M (z (D 0))>0)) (B (aN f_ (M (z (D 0))-4)) (B (a_ (0<=if M (z (D 0))-4>0 then M (z (D 0))-4 else 0)&&a_ (a<=M (z (D 0)))&&a_ (M (z (D 0))<=M (z (D 0)))) (B (iX b&&j_ (z b) 1000000) (B (a_ (0<=if M (z (D 0))-4>0 then M (z (D 0))-4 else 0)&&a_ (a<=M (z (D 0)))) (an 1 (fW [p_ f_ (bl b)] 1) (ae W)/\neg=neg/\false=false/\bI (l_ (a.toNat-0) (k_ 0 (D 0))) (D 1) Q))))) (ax L 0 (neg=neg/\ax L 0 (false=false/\True)))):=by subst_vars;kernel_rfl
def Cf(neg:Bool)(D:Nat->List UInt8)(W:Nat->Int)(L i:Nat)(Q:Prop){a}(d:a=(if M (z (D i))-4>0 then M (z (D i))-4 else 0)){b}(e:b=(l_ (c_ (M (z (D i)))-a.toNat) (k_ a.toNat (D i)))):(kr [Cc] [] 154 3003 14 (EF neg D W) (λ_=>Ar neg W L) (λi=>(true,i.2+1)) Q (true,i))=(ah (a_ (M (z (D i))>0)) (B (aN f_ (M (z (D i))-4)) (B (a_ (0<=if M (z (D i))-4>0 then M (z (D i))-4 else 0)&&a_ (a<=M (z (D i)))&&a_ (M (z (D i))<=M (z (D i)))) (B (iX b&&j_ (z b) 1000000) (B (a_ (i<=i)&&true&&true&&a_ ((i+1)*8<=140737488355328)&&true) (B (a_ (0<=if M (z (D i))-4>0 then M (z (D i))-4 else 0)&&a_ (a<=M (z (D i)))) (zyN (i+1) (an (i+1) (λc=>bif Nat.blt c i then ae W c else l_ 1 (k_ (0+(c-i)*1) [p_ f_ (bl b)])) (ae W)/\neg=neg/\zyN (i+1) (false=false/\bI (l_ (a.toNat-0) (k_ 0 (D i))) (D (i+1)) Q)))))))) (ax i L (zyR i (ae W) (neg=neg/\ax i L (false=false/\True))))):=by subst_vars;kernel_rfl
def LY(s:List UInt8)(neg:Bool)(D:Nat->List UInt8)(W:Nat->Int)(L:Nat)(Q:AV->Prop):(kb [ED,tS] [(3003,14,EF neg D W (false,0),Ar neg W L)] 154 [.str s] Q)=(aE PP II false (aD II 154 3003) 14 (EF neg D W (false,0)) (Ar neg W L)/\a_ (M (z (eJ s))<M (z s))=neg/\false=false/\bI (eJ s) (D 0) (B ((List.all (List.range.loop L []) λi=>true)&&a_ (L<=L)) (B (cO L (ae W)&&j_ L 1000000) (Q (AV.agg [o_ neg,AV.ab (ar (numOf L (ae W))) 1 (aG (numOf L (ae W)))]))))):=U
def asByte(d:Nat):UInt8:=b_ (48+d)
def EG(acc:Nat)(ds:List Nat):Nat:=ds.foldl (λa d=>a*10+d) acc
def pA{d}(h:d<10){p:Nat->Prop}(a:p 0)(b:p 1)(c:p 2)(e:p 3)(f:p 4)(g:p 5)(i:p 6)(j:p 7)(k:p 8)(l:p 9):p d:=by
 rcases(O:d=0∨d=1∨d=2∨d=3∨d=4∨d=5∨d=6∨d=7∨d=8∨d=9)with rfl|rfl|rfl|rfl|rfl|rfl|rfl|rfl|rfl|rfl<;>assumption
def uC{d}(h:d<10):Lib.digitVal (asByte d)=Option.some d:=pA h (p:=λd=>Lib.digitVal (asByte d)=Option.some d) A A A A A A A A A A
def tV{d}(h:d<10):(asByte d==45)=false/\(asByte d==43)=false:=pA h (p:=λd=>(asByte d==45)=false/\(asByte d==43)=false) ⟨rfl,rfl⟩ ⟨rfl,rfl⟩ ⟨rfl,rfl⟩ ⟨rfl,rfl⟩ ⟨rfl,rfl⟩ ⟨rfl,rfl⟩ ⟨rfl,rfl⟩ ⟨rfl,rfl⟩ ⟨rfl,rfl⟩ ⟨rfl,rfl⟩
def nO:∀(ds)(acc),(∀d∈ds,d<10)->Lib.decFrom acc (ds.map asByte)=Option.some (EG acc ds)
 |[],_,_=>rfl
 |d::ds,acc,h=>by
  simp only[v_,Lib.decFrom,uC (h d r_)]
  exact nO ds _ ZD
def yJ{ds}(a:ds≠[])(hl:ds.length<=18)(h:∀d∈ds,d<10):Lib.atoiAll (ds.map asByte)= .ok ((EG 0 ds:Nat):Int):=by
 rw[Lib.atoiAll_short _ (by simpa using hl)]
 cases ds with
 |nil=>exact absurd A a
 |cons d ds=>
  obtain⟨b,c⟩:=tV (h d r_)
  have e:Lib.decNat (asByte d::ds.map asByte)=Option.some (EG 0 (d::ds)):=by
   unfold Lib.decNat
   exact nO (d::ds) 0 h
  simp only[v_,Lib.atoi,b,c,kH,if_false,e]
  rfl
def rD(x):∃ds,Lib.decDigits x=ds.map asByte/\ds≠[]/\(∀d∈ds,d<10)/\EG 0 ds=x:=by
 induction x using u_ with
 |_ x a=>
  by_cases h:x<10
  ·exact⟨[x],by rw[Lib.decDigits_one h];rfl,zA,by simpa using h,by simp[EG]⟩
  ·obtain⟨ds,b,e,f,c⟩:=a (x/10) O
   refine⟨ds++[x%10],?_,zA,?_,?_⟩
   ·rw[Lib.decDigits,dif_neg h,b,List.map_append];rfl
   grind
   ·unfold EG at c⊢
    grind
def yK{s v}(h:Lib.atoiAll s= .ok v):iX s=true/\bl s=v:=by
 unfold iX bl
 grind
def LZ{x}(hx:(Lib.decDigits x).length<=18):iX (Lib.decDigits x)=true/\bl (Lib.decDigits x)=(x:Int):=by
 obtain⟨ds,a,b,c,d⟩:=rD x
 rw[a]at hx⊢
 have:=yJ b (by simpa using hx) c
 rw[d]at this
 exact yK this
def TT(l:Nat):List UInt8:=[b_ (48+l/1000),b_ (48+l/100%10),b_ (48+l/10%10),b_ (48+l%10)]
def L0{l}(hl:l<10000):iX (TT l)=true/\bl (TT l)=(l:Int):=by
 have:=yJ (ds:=[l/1000,l/100%10,l/10%10,l%10]) zA zA (by
  grind)
 have e:EG 0 [l/1000,l/100%10,l/10%10,l%10]=l:=by
  show(((0*10+l/1000)*10+l/100%10)*10+l/10%10)*10+l%10=l
  omega
 rw[e]at this
 exact yK this
def pD(v i:Nat):List UInt8:=if v/10000^i=0/\0<i then []else Lib.decDigits (v/10000^i)
def pL(v:Nat):Nat:=if v=0 then 1 else ar v
def L1(v):0<pL v:=by
 unfold pL
 split
 ·omega
 ·rename_i h;rw[rv h];omega
def TU{v}:pD v (pL v)=[]:=by
 have h:=L1 v
 have a:v/10000^pL v=0:=by
  unfold pL
  split
  ·omega
  ·exact t_ (fY v)
 unfold pD
 grind
def GM{v i:Nat}(hi:i<pL v):0<(pD v i).length/\iX ((pD v i).drop ((pD v i).length-4))=true/\bl ((pD v i).drop ((pD v i).length-4))=aO v i/\(pD v i).take ((pD v i).length-4)=pD v (i+1):=by
 have hx:pD v i=Lib.decDigits (v/10000^i):=by
  unfold pD
  rw[if_neg]
  rintro⟨b,d⟩
  unfold pL at hi
  split at hi
  ·omega
  ·rcases Nat.div_eq_zero_iff.1 b with h|h
   grind
   ·have:=eh _ _ h;omega
 have f:v/10000^(i+1)=v/10000^i/10000:=by rw[Nat.pow_succ,Nat.div_div_eq_div_mul]
 have hl:aO v i=((v/10000^i%10000:Nat):Int):=rfl
 have g:pD v (i+1)=if v/10000^i/10000=0 then []else Lib.decDigits (v/10000^i/10000):=by
  unfold pD
  rw[f]
  by_cases h:v/10000^i/10000=0
  ·simp
  ·rw[if_neg (λe=>h e.1),if_neg h]
 rw[hx,g,hl]
 generalize v/10000^i=x
 by_cases h:x<10000
 ·obtain⟨b,d,j⟩:=rB h
  have e:(Lib.decDigits x).length-4=0:=O
  obtain⟨a1,a2⟩:=LZ (x:=x) O
  rw[e,n_,List.take_zero,if_pos O,Nat.mod_eq_of_lt h]
  exact⟨j,a1,a2,rfl⟩
 ·have a:=Nat.mod_lt x (O:0<10000)
  have c:Lib.decDigits x=Lib.decDigits (x/10000)++TT (x%10000):=by
   have:=yI (x:=x/10000) (l:=x%10000) O a
   rw[(rB a).1,show x%10000+10000*(x/10000)=x by omega]at this
   exact this
  have k:(Lib.decDigits x).length-4=(Lib.decDigits (x/10000)).length:=by rw[c,h_];show _+4-4=_;omega
  obtain⟨a1,a2⟩:=L0 a
  rw[k,c,List.drop_left,List.take_left,if_neg O]
  exact⟨by rw[h_];show 0<_+4;omega,a1,a2,rfl⟩
def GO(n):(if M n-4>0 then M n-4 else 0)=M (n-4):=by
 grind
def IG(v i)(a:(Lib.decDigits v).length<=200):(pD v i).length<=200:=by
 unfold pD
 split
 simp
 ·have:=GJ a (M i-1)
  unfold DE at this
  grind
def EH{neg v}(q:(Lib.decDigits v).length<=200)(hL:pL v<=1000000):aE PP II false (aD II 154 3003) 14 (EF neg (pD v) (aO v) (false,0)) (Ar neg (aO v) (pL v)):=
 aE.of (ι:=Bool×Nat) iw [Cc] (bm PP II []) 1000 14 (λp=>p.2<=pL v/\(p.1=false->p.2=0)) (EF neg (pD v) (aO v)) (λ_=>Ar neg (aO v) (pL v)) (λp=>pL v-p.2) (λp=>(true,p.2+1)) (false,0) A
  ⟨E_ _,λ_=>rfl⟩ λp r=>by
  obtain⟨b,i⟩:=p
  obtain⟨t,u⟩:=r
  change i<=pL v at t
  have k:=IG v i q
  have l:∀(s:List UInt8),c_ (M s.length)-c_ (M (s.length-4))=s.length-(s.length-4):=λ_=>rfl
  have c:∀(s:List UInt8),l_ (s.length-(s.length-4)) (k_ (s.length-4) s)=k_ (s.length-4) s:=λs=>List.take_of_length_le zA
  have d:∀n:Nat,c_ (M n)=n:=λ_=>rfl
  have a:i<pL v->(i+1<=pL v/\(true=false->i+1=0))/\pL v-(i+1)<pL v-i/\(Ar neg (aO v) (pL v)).pick=(Ar neg (aO v) (pL v)).pick:=λhi=>Y
  have r1:aN f_ (M (pD v i).length-4)=true:=aq Y Y
  have m:(a_ (0<=M ((pD v i).length-4))&&a_ (M ((pD v i).length-4)<=M (pD v i).length))=true:=zA
  have o:(a_ (0<=M ((pD v i).length-4))&&a_ (M ((pD v i).length-4)<=M (pD v i).length)&&a_ (M (pD v i).length<=M (pD v i).length))=true:=zA
  cases b with
  |false=>
   have f:i=0:=u A
   subst f
   have hi:=L1 v
   obtain⟨k1,k2,g,j⟩:=GM hi
   refine(Ce neg (pD v) (aO v) (pL v) _ A A).mpr ?_
   rw[GO,l,d ((pD v 0).length-4),c,C_,n_]
   with_reducible refine Zh (λ_=>Ze r1 (Ze o (Ze ?_ (Ze m ⟨?_,rfl,rfl,Zi j (a hi)⟩)))) (λh=>?_)
   ·rw[k2,Bool.true_and];exact kV Y
   ·intro x hx σ
    have:x=0:=O
    subst this
    rw[g];exact⟨⟨rfl,rfl⟩,trivial⟩
   grind
  |true=>
   refine(Cf neg (pD v) (aO v) (pL v) i _ A A).mpr ?_
   rw[GO,l,d ((pD v i).length-4),c,C_,n_]
   by_cases hi:i<pL v
   ·obtain⟨k1,k2,g,j⟩:=GM hi
    rw[g]
    with_reducible refine Zh (λ_=>Ze r1 (Ze o (Ze ?_ (Ze ?_ (Ze m (YG A ⟨jT A,rfl,YG A ⟨rfl,Zi j (a hi)⟩⟩)))))) (λh=>?_)
    ·rw[k2,Bool.true_and];exact kV Y
    all_goals grind
   ·have e:i=pL v:=by omega
    subst e
    with_reducible refine Zh (λh=>?_) (λ_=>YG A ⟨dG _ _,rfl,YG A ⟨rfl,trivial⟩⟩)
    have h:=pT h
    rw[TU]at h
    grind
def WG(v):ar v<=pL v:=by
 unfold pL
 split
 ·rename_i h;rw[h,eS];omega
 omega
def L2{s v}(a:eJ s=Lib.decDigits v)(b:(Lib.decDigits v).length<=200)(hL:pL v<=1000000):af PP II 154 [.str s] (g_ 12) (.ret (.agg [.bool (a_ (M (eJ s).length<M s.length)),jm v]) (g_ 12)):=by
 refine Al (T:=[(3003,14,EF (a_ (M (eJ s).length<M s.length)) (pD v) (aO v) (false,0),Ar (a_ (M (eJ s).length<M s.length)) (aO v) (pL v))]) ((LY s _ (pD v) (aO v) (pL v) _).mpr ?_)
 have c:pD v 0=Lib.decDigits v:=by unfold pD;rw[if_neg O,B_,F_]
 have d:numOf (pL v) (ae (aO v))=v:=kY (WG v)
 rw[d]
 exact⟨EH b hL,rfl,rfl,Zi (a.trans c.symm) (Ze zA (Ze (dZ (cM _ v) ZD) λσ=>⟨rfl,mP σ v,trivial⟩))⟩
def L3(s:List UInt8):Nat:=(Lib.decNat s).getD 0
def IH(v):L3 (Lib.decDigits v)=v:=by
 obtain⟨ds,a,d,b,c⟩:=rD v
 unfold L3 Lib.decNat
 rw[a,nO ds 0 b,c]
 simp_all
def ao(s:List UInt8):Nat:=L3 (eJ s)
def fM(s:List UInt8):Bool:=m_ (eJ s) (Lib.decDigits (ao s))&&j_ (eJ s).length 200
def qd(s:List UInt8):Bool:=a_ (M (eJ s).length<M s.length)
def wu{a b:List UInt8}(h:m_ a b=true):a=b:=eq_of_beq h
def tW{v}(a:(Lib.decDigits v).length<=200):ar v<=200:=by
 refine eh _ _ ?_
 rw[Lib.decDigits_length]at a
 have b:=Lib.lt_pow_nDigits v
 refine Nat.lt_of_lt_of_le b (A_ (Nat.pow_le_pow_right O a) O)
def WH{v}(a:(Lib.decDigits v).length<=200):pL v<=1000000:=by
 have:=tW a
 unfold pL
 split<;>omega
def rE{s}(h:fM s=true):eJ s=Lib.decDigits (ao s)/\(Lib.decDigits (ao s)).length<=200:=by
 unfold fM at h
 simp only[bf]at h
 have e:=wu h.1
 simp_all
def EI:aC PP II:=aC.pure 154
 (λX args a=>match args with
  |[.str s]=>X.ak (fM s) (a (.agg [.bool (qd s),jm (ao s)]))
  |_=>X.fail)
 λX sem hX args a h=>by
  split at h
  ·rename_i s
   obtain⟨c,d⟩:=hX.ak _ _ h
   obtain⟨e,b⟩:=rE c
   exact⟨_,d,λ_=>rfl,λ_=>rfl,L2 e b (WH b)⟩
  ·exact zR
end
end Go.Sx
