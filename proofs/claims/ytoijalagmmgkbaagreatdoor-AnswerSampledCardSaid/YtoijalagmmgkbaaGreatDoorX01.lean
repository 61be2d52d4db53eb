/- Lemmas, part 1. -/
import Derived.OrdersIn
import Derived.Laws.Sem
import Derived.KernelRfl
import Derived.Laws.Strings
import Derived.Laws.StructEq
import Derived.Laws.Pointers
import Derived.Laws.Slices
import Derived.LaidEql
set_option linter.all false
set_option linter.defProp false
namespace Go
theorem A{α:Sort _}{a:α}:a=a:=rfl
theorem O{P:Prop}(h:P:=by omega):P:=h
theorem U{P:Prop}(h:P:=by kernel_rfl):P:=h
theorem Y{P:Prop}(h:P:=by grind):P:=h
theorem ZD{P:Prop}(h:P:=by simp_all):P:=h
theorem zC{P:Prop}(h:P:=by decide):P:=h
theorem zB{P:Prop}(h:P:=by simp only[VR]):P:=h
theorem zA{P:Prop}(h:P:=by simp):P:=h
theorem zD{P:Prop}(h:P:=by simpa only[VR,AV.bD]using k):P:=h
theorem zF{P:Prop}(h:P:=by simpa only[VR]using k):P:=h
theorem zE{P:Prop}(h:P:=by cases h):P:=h
theorem zG{P:Prop}(h:P:=by cases e):P:=h
theorem zH{P:Prop}(h:P:=by simp[aU]):P:=h
theorem zI{P:Prop}(h:P:=by assumption):P:=h
theorem zL{P:Prop}(h:P:=by simp[dN]at h):P:=h
theorem zJ{P:Prop}(h:P:=by simp;omega):P:=h
theorem ZG{P:Prop}(h:P:=by simp only[bf,bn,iH];omega):P:=h
theorem zP{P:Prop}(h:P:=by simp[binOp,Op.intCmp]):P:=h
theorem zQ{P:Prop}(h:P:=by show((pO a m (Int.ofNat n)/m:Nat):Int)<10000;omega):P:=h
theorem zR{P:Prop}(h:P:=by exact absurd h hX.fail):P:=h
theorem zV{P:Prop}(h:P:=by repeat' (first|refine cC _ _ (by first|exact hx|(rw[hx];rfl)|(rw[ha];rfl)|exact t1|exact t2|(rw[t1];rfl)|(rw[t2];rfl)|exact aq O O|omega) ?_|exact⟨hl,YG A ⟨r1,Zf A (Zf A (Zi A (Zi A (Zi A (Zi A (Zf A (Zf A f1)))))))⟩⟩|refine Zg (λh=>?_) λh=>?_|(exfalso;omega))):P:=h
theorem zW{P:Prop}(h:P:=by repeat' (first|exact this|exact aZ|exact bC _ _|refine Zf A ?_|refine YG A ?_|refine And.intro ?_ ?_)):P:=h
theorem zX{P:Prop}(h:P:=by repeat' (first|exact hQ|exact rows|exact bL _ _|exact bC _ _|exact bO _ _|exact aZ|exact dP _ _ _ _|with_reducible rfl|refine Zf A ?_|refine YG k1 ?_|refine YG k2 ?_|refine YG A ?_|refine Zi A ?_|refine And.intro ?_ ?_)):P:=h
theorem zY{P:Prop}(h:P:=by repeat' (first|exact hQ|exact rows|exact bL _ _|exact bC _ _|exact bO _ _|exact aZ|exact dP _ _ _ _|with_reducible rfl|refine Zf A ?_|refine YG k1 ?_|refine YG k2 ?_|refine YG A ?_|refine Zi A ?_|refine Zi hA.1.symm ?_|refine Zi hA.2.symm ?_|refine And.intro ?_ ?_)):P:=h
theorem ZB{P:Prop}(h:P:=by repeat' (with_reducible first|refine Zf A ?_|refine YG A ?_|refine Zi A ?_|refine And.intro ?_ ?_|exact bL _ _|exact bC _ _|exact bO _ _|exact eP _ _ _ _|exact hQ|refine Zf k1 ?_)):P:=h
theorem ZC{P:Prop}(h:P:=by repeat' (first|exact hQ|exact bL _ _|exact bC _ _|exact bO _ _|exact aZ|with_reducible rfl|refine Zf A ?_|refine YG k1 ?_|refine YG A ?_|refine Zi A ?_|refine And.intro ?_ ?_)):P:=h
theorem ZV{P:Prop}(h:P:=by repeat' (first|exact q|with_reducible refine Zf A ?_|with_reducible refine YG A ?_|with_reducible refine And.intro ?_ ?_|omega|omega)):P:=h
theorem ZJ{P:Prop}(h:P:=by repeat' (first|with_reducible exact trivial|with_reducible refine Zf A ?_|with_reducible refine YG A ?_|with_reducible refine And.intro ?_ ?_|with_reducible exact fr|with_reducible exact xr|refine Zf e ?_)):P:=h
theorem ZK{P:Prop}(h:P:=by repeat' (with_reducible first|exact hQ|exact sa|exact sb|exact aax _ _|refine YG A ?_|refine Zf A ?_|refine And.intro ?_ ?_)):P:=h
theorem ZL{P:Prop}(h:P:=by repeat' (with_reducible first|exact hn|exact trivial|exact YX _ _ _|refine Zi A ?_|refine Zf A ?_|refine YG A ?_|refine And.intro ?_ ?_|rfl)):P:=h
theorem ZM{P:Prop}(h:P:=by repeat' (with_reducible first|exact trivial|refine Zi A ?_|refine And.intro ?_ ?_|rfl)):P:=h
theorem ZN{P:Prop}(h:P:=by repeat' (with_reducible first|exact trivial|exact Rz _ _ _|exact nf _ _|exact S0 _ _ _|exact dP _ _ _ _|exact OL _ _|exact Zv _ _|exact TN _ _ _ _|exact bL _ _|exact bC _ _|exact bO _ _|exact aZ|refine Zi A ?_|refine Zf A ?_|refine YG A ?_|refine And.intro ?_ ?_)):P:=h
theorem ZO{P:Prop}(h:P:=by repeat' (first|exact fin|with_reducible exact sb|with_reducible refine cC _ _ A ?_|refine cC _ _ hmi ?_|with_reducible exact Rz _ _ _|with_reducible exact nf _ _|with_reducible exact S0 _ _ _|with_reducible exact TN _ _ _ _|with_reducible exact bC _ _|with_reducible exact bO _ _|with_reducible exact aZ|with_reducible refine Zi A ?_|with_reducible refine Zf A ?_|refine YG A ?_|with_reducible refine And.intro ?_ ?_)):P:=h
theorem ZP{P:Prop}(h:P:=by repeat' (first|with_reducible exact trivial|with_reducible rfl|with_reducible exact nf _ _|exact aaJ _ _|with_reducible exact bL _ _|with_reducible exact bC _ _|with_reducible exact bO _ _|with_reducible exact aZ|with_reducible refine Zi A ?_|with_reducible refine Zf A ?_|refine YG x2 ?_|refine YG x1 ?_|with_reducible refine YG A ?_|with_reducible refine And.intro ?_ ?_)):P:=h
theorem ZQ{P:Prop}(h:P:=by repeat' (first|with_reducible exact hn|with_reducible rfl|exact sz|with_reducible exact nf _ _|with_reducible exact bL _ _|with_reducible exact bC _ _|with_reducible exact bO _ _|with_reducible exact aZ|with_reducible refine Zi A ?_|with_reducible refine Zf A ?_|refine YG e1.symm ?_|with_reducible refine YG A ?_|with_reducible refine And.intro ?_ ?_)):P:=h
theorem ZR{P:Prop}(h:P:=by repeat' (first|with_reducible exact hq|with_reducible exact trivial|with_reducible rfl|exact sn|with_reducible exact TB _ _ _|with_reducible exact bL _ _|with_reducible exact bC _ _|with_reducible exact bO _ _|with_reducible exact aZ|with_reducible exact eP _ _ _ _|with_reducible refine YG cE ?_|with_reducible refine Zi aE ?_|with_reducible refine Zi bE ?_|with_reducible refine Zi A ?_|with_reducible refine Zf A ?_|with_reducible refine YG A ?_|with_reducible refine And.intro ?_ ?_)):P:=h
theorem ZS{P:Prop}(h:P:=by repeat' (with_reducible first|exact hq|exact trivial|rfl|exact TB _ _ _|exact bL _ _|exact bC _ _|exact bO _ _|exact aZ|exact eP _ _ _ _|exact kp|refine cC _ _ bi ?_|refine YG cE ?_|refine Zi aE ?_|refine Zi bE ?_|refine YG cF ?_|refine Zi aF ?_|refine Zi bF ?_|refine Zi A ?_|refine Zf A ?_|refine YG A ?_|refine And.intro ?_ ?_)):P:=h
theorem ZT{P:Prop}(h:P:=by repeat' (with_reducible first|exact hq'|exact trivial|rfl|exact TB _ _ _|exact bL _ _|exact bC _ _|exact bO _ _|exact aZ|exact eP _ _ _ _|refine YG z0 ?_|refine Zi A ?_|refine Zf A ?_|refine YG A ?_|refine And.intro ?_ ?_)):P:=h
theorem ZU{P:Prop}(h:P:=by repeat' (with_reducible first|exact hq'|exact trivial|rfl|exact TB _ _ _|exact bL _ _|exact bC _ _|exact bO _ _|exact aZ|exact eP _ _ _ _|refine Zi A ?_|refine Zf A ?_|refine YG A ?_|refine And.intro ?_ ?_)):P:=h
end Go
set_option maxRecDepth 1000000
namespace Go.Sx
open Go
open Option renaming some->M,none->b_,map_eq_some_iff->e_
open List renaming range->z,flatMap_append->f_,range_succ->h_,length_append->j_,getElem?_take_of_lt->l_,getElem?_drop->o_,map_append->s_,replicate->u_
open Nat renaming beq->a_,succ_mul->m_,mul_le_mul_right->n_,ble->r_,ble_eq->x_
open Bool renaming eq_false_iff->c_,not_eq_true'->q_
open BitVec renaming ofInt->d_
open Decidable renaming decide->g_
open Int renaming ofNat_eq_natCast->i_,negSucc_eq->k_
open Go.IntKind renaming signed->p_,bits->t_,max->v_,i64->w_,wrap->z_,min->A_
noncomputable section
section
theorem bf(a b:Bool):((a&&b)=true)=(a=true/\b=true):=Bool.and_eq_true a b
theorem bn{p:Prop}[Decidable p]:(decide p=true)=p:=decide_eq_true_eq
theorem bW{p:Prop}[Decidable p](h:p):decide p=true:=decide_eq_true h
theorem nZ{p:Prop}[Decidable p](h :¬ p):decide p=false:=decide_eq_false h
theorem pT{p:Prop}[Decidable p](h:decide p=true):p:=of_decide_eq_true h
theorem dE{n m:Nat}(h:a_ n m=true):n=m:=Nat.eq_of_beq_eq_true h
theorem jX{n m:Nat}(h:r_ n m=true):n<=m:=Nat.le_of_ble_eq_true h
theorem kV{n m:Nat}(h:n<=m):r_ n m=true:=Nat.ble_eq_true_of_le h
theorem dw(n:Nat):n<=n:=Nat.le_refl n
theorem fE{α:Type}(a b:α):(M a=M b)=(a=b):=Option.some.injEq a b
theorem iK{p:Prop}[Decidable p]:(decide p=false)↔ ¬ p:=decide_eq_false_iff_not
theorem mo{α:Type}{l:List α}{i:Nat}(h:i<l.length):l[i]? =M l[i]:=List.getElem?_eq_getElem h
theorem Zc{x y:Bool}:(x&&y)=true↔x=true/\y=true:=Bool.and_eq_true_iff
theorem kH:(false=true)=False:=Bool.false_eq_true
theorem lZ(n:Nat):¬ n<0:=Nat.not_lt_zero n
theorem HD(n:Nat):¬ n<n:=Nat.lt_irrefl n
theorem ni(n:Nat):a_ n n=true:=Nat.beq_refl n
inductive AV where
 |bool (b:Bool)
 |int (k:IntKind) (n:Int)
 |str (s:List UInt8)
 |ptr (l k e a:Nat)
 |nilPtr
 |slice (l base k len:Nat) (cap:Option Nat) (e:Nat)
 |aw
 |own (l len e:Nat)
 |map (l:Option Nat)
 |fn (f:Nat) (first caps:List AV)
 |yield (l:Nat)
 |aB
 |nilIface
 |iface (c:TypeId) (g:AV)
 |agg (cs:List AV)
 |qP (cs:List AV)
 |any
 |fc (cs:List AV) (a:Nat)
 |ab (len e:Nat) (f:Nat->List AV)
 |addr (b a:Nat)
 deriving Inhabited
structure Env where
 pl:Nat->Option (Nat×Nat)
 fz:Nat->Option (List Value)
instance:CoeFun Env (λ_=>Nat->Option (Nat×Nat)):=⟨Env.pl⟩
def Env.bare(ρ:Env):Env:=⟨λ_=>b_,ρ.fz⟩
def Env.fC(σ:Nat->Nat)(ρ:Env):Env:=⟨λl=>ρ (σ l),ρ.fz⟩
def qR(ρ:Env)(b o:Nat)(vs:List Value):Prop :=
 (∀v∈vs,v.oneCell'=true)/\∃pre rest,pre.length=o/\ρ.fz b=M (pre++vs++rest)
mutual
def VR(ρ:Env):AV->Value->Prop
 | .bool b,v=>v= .bool b
 | .int k n,v=>v= .int k n
 | .str s,v=>v= .string ⟨s.toArray⟩
 | .nilPtr,v=>v= .pointer b_
 | .ptr l k e j,v=> ∃b N,ρ l=M (b,N)/\v= .pointer (M ⟨b,k*e+j,b_⟩)
 | .slice l base k len cap e,v=> ∃b N c a,ρ l=M (b,N)/\v= .slice (M a) len c/\len<=c/\(0<c->a=⟨b,base+k*e,b_⟩/\base+k*e+c*e<=N)/\∀h,cap=M h->c=h
 | .aw,v=>v= .slice b_ 0 0
 | .own l len e,v=>(len=0/\v= .slice b_ 0 0)∨∃b N c,ρ l=M (b,N)/\v= .slice (M ⟨b,0,b_⟩) len c/\len<=c/\c*e<=N
 | .map b_,v=>v= .map b_
 | .map (M l),v=> ∃b N,ρ l=M (b,N)/\v= .map (M b)
 | .fn f first g,v=> ∃us vs:List Value,v= .func (.func f) us.toArray vs.toArray/\aU ρ first us/\aU ρ g vs
 | .yield l,v=> ∃b N,ρ l=M (b,N)/\v= .func (.yield b) #[] #[]
 | .aB,v=>v= .nilFunc
 | .nilIface,v=>v= .nilIface
 | .iface t a,v=> ∃u,v= .iface t u/\VR ρ a u
 | .agg cs,v=> ∃vs:List Value,v= .agg vs.toArray/\aU ρ cs vs
 | .qP cs,v=> ∃vs:List Value,v= .tuple vs.toArray/\aU ρ cs vs
 | .any,_=>True
 | .addr b j,v=>v= .pointer (M ⟨b,j,b_⟩)
 | .fc cs j,v=> ∃b o vs,v= .pointer (M ⟨b,o+j,b_⟩)/\qR ρ b o vs/\aU ρ.bare cs vs
 | .ab len e f,v=>(len=0/\v= .slice b_ 0 0)∨∃b o c a d,v= .slice (M a) len c/\len<=c/\
   (0<len->a=⟨b,o,b_⟩/\qR ρ b o ((z len).flatMap d)/\∀i,i<len->(d i).length=e/\aU ρ.bare (f i) (d i))
def aU(ρ:Env):List AV->List Value->Prop
 |[],vs=>vs=[]
 |a::as,vs=> ∃u us,vs=u::us/\VR ρ a u/\aU ρ as us
end
structure Ext (ρ ρ':Env):Prop where
 Pa:∀l x,ρ l=M x->ρ' l=M x
 fz:∀b vs,ρ.fz b=M vs->ρ'.fz b=M vs
instance {ρ ρ':Env}:CoeFun (Ext ρ ρ') (λ_=> ∀l x,ρ l=M x->ρ' l=M x):=⟨Ext.Pa⟩
theorem Ext.refl(ρ):Ext ρ ρ:=⟨λ_ _ h=>h,λ_ _ h=>h⟩
theorem Ext.trans{a b c}(h:Ext a b)(k:Ext b c):Ext a c:=⟨λl x e=>k l x (h l x e),λl x e=>k.fz l x (h.fz l x e)⟩
theorem Ext.bare{a b}(h:Ext a b):Ext a.bare b.bare:=⟨λ_ _ e=>zG,h.fz⟩
theorem Ext.qU(a):Ext a.bare a:=⟨λ_ _ e=>zG,λ_ _ e=>e⟩
theorem qR.mono{ρ ρ'}(h:∀b vs,ρ.fz b=M vs->ρ'.fz b=M vs){b o vs}(k:qR ρ b o vs):qR ρ' b o vs:=by
 obtain⟨k1,pre,rest,k2,a⟩:=k
 exact⟨k1,pre,rest,k2,h _ _ a⟩
theorem Kj{e n}{a:Nat->List Value}(h:∀i,i<n->(a i).length=e):((z n).flatMap a).length=n*e:=by
 induction n with
 |zero=>simp
 |succ n b=>rw[h_,f_,j_,b (λi hi=>h i O),m_];simp[h n O]
theorem range_split{n a}(k:a<=n):z n=z a++(z (n-a)).map (a+ ·):=by
 have:n=a+(n-a):=O
 conv=>lhs;rw[this,List.range_add]
theorem qR.part{ρ:Env}{b o n k m e:Nat}{a:Nat->List Value}(h:qR ρ b o ((z n).flatMap a))(c:∀i,i<n->(a i).length=e)(l:k+m<=n):qR ρ b (o+k*e) ((z m).flatMap λi=>a (k+i)):=by
 obtain⟨d,pre,rest,f,j⟩:=h
 have e1:(z n).flatMap a=(z k).flatMap a++((z m).flatMap (λi=>a (k+i))++(z (n-(k+m))).flatMap (λi=>a (k+m+i))):=by
  rw[range_split (O:k<=n),f_,range_split (O:m<=n-k),s_,f_]
  have:n-k-m=n-(k+m):=O
  simp[List.flatMap_map,this,Nat.add_assoc]
 rw[e1]at d j
 refine⟨ZD,pre++(z k).flatMap a,(z (n-(k+m))).flatMap (λi=>a (k+m+i))++rest,by rw[j_,f,Kj λi hi=>c i O],?_⟩
 grind
theorem qR.row{ρ b o n k e a}(h:qR ρ b o ((z n).flatMap a))(c:∀i,i<n->(a i).length=e)(d:k<n):qR ρ b (o+k*e) (a k):=by
 simpa using h.part c (m:=1) (k:=k) O
mutual
theorem VR.ext{ρ ρ':Env}(h:Ext ρ ρ'):∀(a:AV)(v:Value),VR ρ a v->VR ρ' a v
 | .bool _,_,k=>zF
 | .int _ _,_,k=>zF
 | .str _,_,k=>zF
 | .nilPtr,_,k=>zF
 | .ptr l _ _ _,v,k=>by
  simp only[VR]at k⊢
  obtain⟨b,N,e,r⟩:=k
  exact⟨b,N,h _ _ e,r⟩
 | .slice l _ _ _ _ _,v,k=>by
  simp only[VR]at k⊢
  obtain⟨b,N,c,a,e,r⟩:=k
  exact⟨b,N,c,a,h _ _ e,r⟩
 | .aw,_,k=>zF
 | .own l len e,v,k=>by
  simp only[VR]at k⊢
  rcases k with k|⟨b,N,c,e,r⟩
  ·exact .inl k
  ·exact .inr ⟨b,N,c,h _ _ e,r⟩
 | .map b_,_,k=>zF
 | .map (M l),v,k=>by
  simp only[VR]at k⊢
  obtain⟨b,N,e,r⟩:=k
  exact⟨b,N,h _ _ e,r⟩
 | .fn f first m,v,k=>by
  simp only[VR]at k⊢
  obtain⟨us,vs,e,r,s⟩:=k
  exact⟨us,vs,e,aU.ext h first us r,aU.ext h m vs s⟩
 | .yield l,v,k=>by
  simp only[VR]at k⊢
  obtain⟨b,N,e,r⟩:=k
  exact⟨b,N,h _ _ e,r⟩
 | .aB,_,k=>zF
 | .nilIface,_,k=>zF
 | .iface t a,v,k=>by
  simp only[VR]at k⊢
  obtain⟨u,e,r⟩:=k
  exact⟨u,e,VR.ext h a u r⟩
 | .agg cs,v,k=>by
  simp only[VR]at k⊢
  obtain⟨vs,e,r⟩:=k
  exact⟨vs,e,aU.ext h cs vs r⟩
 | .qP cs,v,k=>by
  simp only[VR]at k⊢
  obtain⟨vs,e,r⟩:=k
  exact⟨vs,e,aU.ext h cs vs r⟩
 | .any,_,_=>zB
 | .addr _ _,_,k=>zF
 | .fc cs j,v,hk=>by
  simp only[VR]at hk⊢
  obtain⟨b,o,vs,w,y,d⟩:=hk
  exact⟨b,o,vs,w,y.mono h.fz,aU.ext h.bare cs vs d⟩
 | .ab len e f,v,hk=>by
  simp only[VR]at hk⊢
  rcases hk with hk|⟨b,o,c,a,q,w,y,d⟩
  ·exact .inl hk
  ·exact .inr ⟨b,o,c,a,q,w,y,λhl=>⟨(d hl).1,(d hl).2.1.mono h.fz,λi hi=>⟨((d hl).2.2 i hi).1,aU.ext h.bare (f i) (q i) ((d hl).2.2 i hi).2⟩⟩⟩
theorem aU.ext{ρ ρ':Env}(h:Ext ρ ρ'):∀(as:List AV)(vs:List Value),aU ρ as vs->aU ρ' as vs
 |[],_,k=>by simpa only[aU]using k
 |a::as,vs,k=>by
  simp only[aU]at k⊢
  obtain⟨u,us,e,r,s⟩:=k
  exact⟨u,us,e,VR.ext h a u r,aU.ext h as us s⟩
end
section
variable {ρ:Env}
theorem aU.aL{a as u us}:aU ρ (a::as) (u::us)↔VR ρ a u/\aU ρ as us:=by
 simp only[aU]
 grind
theorem aU.length_eq:∀{as vs},aU ρ as vs->as.length=vs.length
 |[],vs,h=>by simp only[aU]at h;simp[h]
 |a::as,vs,h=>by
  simp only[aU]at h
  obtain⟨u,us,rfl,_,s⟩:=h
  simp[aU.length_eq s]
theorem aU.get:∀{as vs}(_:aU ρ as vs)(i:Nat){a},as[i]? =M a->∃v,vs[i]? =M v/\VR ρ a v
 |[],_,_,i,a,e=>by simp at e
 |x::as,vs,h,i,a,e=>by
  simp only[aU]at h
  obtain⟨u,us,rfl,r,s⟩:=h
  cases i with
  |zero=>grind
  |succ i=>simp at e;simpa using aU.get s i e
theorem aU.append:∀{as b us vs},aU ρ as us->aU ρ b vs->aU ρ (as++b) (us++vs)
 |[],b,us,vs,h,k=>by simp only[aU]at h;grind
 |a::as,b,us,vs,h,k=>by
  simp only[aU]at h
  obtain⟨u,c,rfl,r,s⟩:=h
  exact aU.aL.2 ⟨r,aU.append s k⟩
theorem aU.take:∀{as vs}(n),aU ρ as vs->aU ρ (as.take n) (vs.take n)
 |as,vs,0,_=>zH
 |[],vs,n+1,h=>by simp only[aU]at h;subst h;simp[aU]
 |a::as,vs,n+1,h=>by
  simp only[aU]at h
  obtain⟨u,b,rfl,r,s⟩:=h
  exact aU.aL.2 ⟨r,aU.take n s⟩
theorem aU.drop:∀{as vs}(n),aU ρ as vs->aU ρ (as.drop n) (vs.drop n)
 |as,vs,0,h=>by simpa using h
 |[],vs,n+1,h=>by simp only[aU]at h;subst h;simp[aU]
 |a::as,vs,n+1,h=>by
  simp only[aU]at h
  obtain⟨u,b,rfl,r,s⟩:=h
  simpa using aU.drop n s
theorem aU.set:∀{as vs}(i){a v},aU ρ as vs->VR ρ a v->aU ρ (as.set i a) (vs.set i v)
 |[],vs,i,_,_,h,_=>by simp only[aU]at h;subst h;simp[aU]
 |x::as,vs,i,a,v,h,k=>by
  simp only[aU]at h
  obtain⟨u,b,rfl,r,s⟩:=h
  cases i with
  |zero=>exact aU.aL.2 ⟨k,s⟩
  |succ i=>exact aU.aL.2 ⟨r,aU.set i s k⟩
theorem aU.replicate{a v}(h:VR ρ a v):∀n,aU ρ (u_ n a) (u_ n v)
 |0=>zH
 |n+1=>aU.aL.2 ⟨h,aU.replicate h n⟩
end
inductive Tr (α:Type) where
 |e
 |n (l:Tr α) (a:Option α) (r:Tr α)
def Tr.get{α:Type}:Tr α->Nat->Option α
 | .e,_=>b_
 | .n l v r,i=>bif a_ i 0 then v else bif a_ (i%2) 1 then l.get (i/2)else r.get (i/2-1)
def Tr.H9{α:Type}(x:α):Nat->Tr α->Nat->Tr α
 |0,t,_=>t
 |f+1,.e,i=>bif a_ i 0 then .n .e (M x) .e else bif a_ (i%2) 1 then .n (Tr.H9 x f .e (i/2)) b_ .e else .n .e b_ (Tr.H9 x f .e (i/2-1))
 |f+1,.n l v r,i=>bif a_ i 0 then .n l (M x) r else bif a_ (i%2) 1 then .n (Tr.H9 x f l (i/2)) v r else .n l v (Tr.H9 x f r (i/2-1))
def Tr.set{α:Type}(t:Tr α)(i:Nat)(x:α):Tr α:=Tr.H9 x (i+1) t i
theorem Tr.qV{α}(i):(Tr.e:Tr α).get i=b_:=rfl
theorem Tr.vd{α}(x):∀(f)(t:Tr α)(i j),i<f->(Tr.H9 x f t i).get j=if j=i then M x else t.get j
 |0,_,_,_,h=>O
 |f+1,t,i,j,h=>by
  have key:∀(l r:Tr α)(v:Option α),((bif a_ i 0 then .n l (M x) r else bif a_ (i%2) 1 then .n (Tr.H9 x f l (i/2)) v r else .n l v (Tr.H9 x f r (i/2-1))):Tr α).get j=if j=i then M x else(Tr.n l v r).get j:=by
   intro l r v
   by_cases m:i=0
   ·subst m
    have o:a_ 0 0=true:=rfl
    simp only[o,cond_true]
    by_cases d:j=0
    ·subst d;simp[Tr.get]
    ·have:a_ j 0=false:=by rw[c_];intro e;exact ZD
     simp[Tr.get,this,d]
   ·have q:a_ i 0=false:=by rw[c_];intro e;exact ZD
    rw[q,cond_false]
    by_cases h1:i%2=1
    ·have a:a_ (i%2) 1=true:=by rw[h1];rfl
     rw[a,cond_true]
     simp only[Tr.get]
     by_cases d:j=0
     ·subst d
      have :¬ 0=i:=λe=>m e.symm
      simp[this]
     ·have b:a_ j 0=false:=by rw[c_];intro e;exact ZD
      rw[b]
      simp only[cond_false]
      by_cases c:j%2=1
      ·have:a_ (j%2) 1=true:=by rw[c];rfl
       rw[this]
       simp only[cond_true]
       rw[Tr.vd x f l (i/2) (j/2) O]
       grind
      ·have:a_ (j%2) 1=false:=by rw[c_];intro e;exact ZD
       grind
    ·have a:a_ (i%2) 1=false:=by rw[c_];intro e;exact ZD
     rw[a,cond_false]
     simp only[Tr.get]
     by_cases d:j=0
     ·subst d
      have :¬ 0=i:=λe=>m e.symm
      simp[this]
     ·have b:a_ j 0=false:=by rw[c_];intro e;exact ZD
      rw[b]
      simp only[cond_false]
      by_cases c:j%2=1
      ·have:a_ (j%2) 1=true:=by rw[c];rfl
       grind
      ·have:a_ (j%2) 1=false:=by rw[c_];intro e;exact Y
       rw[this]
       simp only[cond_false]
       rw[Tr.vd x f r (i/2-1) (j/2-1) O]
       grind
  cases t with
  |e=>
   have:=key .e .e b_
   simp only[Tr.H9,Tr.qV]
   rw[this]
   congr 1
   simp[Tr.get]
  |n l v r=>exact key l r v
theorem Tr.bH{α}(t:Tr α)(i j)(x):(t.set i x).get j=if j=i then M x else t.get j:=Tr.vd x _ t i j (Nat.lt_succ_self i)
def cR(t:Tr AV)(i:Nat):AV:=match t.get i with|some a=>a|none=> .any
def uw(ρ:Env)(t:Tr AV)(nt:Nat)(vs:Array Value):Prop:=vs.size=nt/\∀i,VR ρ (cR t i) (vs.getD i undef)
theorem uw.ext{ρ ρ'}(h:Ext ρ ρ'){t nt vs}(k:uw ρ t nt vs):uw ρ' t nt vs:=⟨k.1,λi=>VR.ext h _ _ (k.2 i)⟩
inductive Access where
 |ro|wr|ty (e:TypeId)|ex (m:Nat)
 deriving Inhabited
def Access.w:Access->Bool
 | .ro=>false
 | .ex _=>false
 |_=>true
inductive eT where
 |cells (cs:List AV) (rw:Access)
 |rows (n e:Nat) (f:Nat->List AV) (rw:Access)
 |str (s:List UInt8) (rw:Access)
 |map (es:List (AV×AV))
 |loop (r:LoopState) (pending:Option Code) (b:Tr AV) (nt:Nat) (params:List Tmp) (assign body:Code) (tE:Nat)
 |tE
 |iter (l:Nat)
 |iy (n:Nat) (K:Nat->Int)
 |dX (l since:Nat) (a:List Nat)
 |cT (n:Nat) (K:Nat->List Int) (P:Nat->AV) (foc:Option (Nat×AV))
 |dead
 deriving Inhabited
def dL:List (AV×AV)->Bool
 |[]=>false
 |(a,_)::_=>match a with| .any=>true|_=>false
def gK:List (AV×AV)->List (AV×AV)
 |[]=>[]
 |(a,b)::es=>match a with| .any=>es|_=>(a,b)::es
theorem oY{c}(h:dL c=false):gK c=c:=by
 cases c with
 |nil=>rfl
 |cons e c=>
  obtain⟨a,b⟩:=e
  cases a<;>first|rfl|cases h
theorem DG{a k v}(h:dL a=false)(b:k≠ .any):dL (a++[(k,v)])=false:=by
 cases a with
 |nil=>cases k<;>first|rfl|exact absurd A b
 |cons e a=>exact h
theorem DH{a k v}(h:dL a=false)(b:k≠ .any)(i):dL (a.set i (k,v))=false:=by
 cases a with
 |nil=>rfl
 |cons e a=>
  cases i with
  |zero=>cases k<;>first|rfl|exact absurd A b
  |succ i=>exact h
def so(a ms:List MapEntry):Prop := ∀b c i v,Instr.findNow b c a 0=M (M (i,v))->∃d,Instr.findNow b c ms 0=M (M (d,v))
def r9(ρ:Env)(b:List (AV×AV))(ms:List MapEntry):Prop :=
 ∃a,aU ρ ((gK b).map (·.1)) (a.map (·.key))/\aU ρ ((gK b).map (·.2)) (a.map (·.val))/\(dL b=false->a=ms)/\so a ms
theorem r9.plain{ρ a ms}(h:dL a=false)(k:r9 ρ a ms):aU ρ (a.map (·.1)) (ms.map (·.key))/\aU ρ (a.map (·.2)) (ms.map (·.val)):=by
 obtain⟨b,c,d,f,_⟩:=k
 rw[oY h]at c d
 grind
theorem r9.mk{ρ:Env}{a:List (AV×AV)}{ms:List MapEntry}(h:dL a=false)(b:aU ρ (a.map (·.1)) (ms.map (·.key)))(c:aU ρ (a.map (·.2)) (ms.map (·.val))):r9 ρ a ms:=by
 refine⟨ms,?_,?_,λ_=>rfl,λ_ _ i _ e=>⟨i,e⟩⟩
 ·rw[oY h];exact b
 ·rw[oY h];exact c
def eT.rw:eT->Bool
 | .cells _ rw=>rw.w
 | .rows _ _ _ rw=>rw.w
 | .str _ rw=>rw.w
 | .dead=>false
 | .map es=>!dL es
 |_=>true
structure AH where
 n:Nat
 t:Tr eT
def AH.get(H:AH)(i:Nat):eT:=match H.t.get i with|some b=>b|none=> .dead
def AH.set(H:AH)(i:Nat)(b:eT):AH:={n:=H.n,t:=H.t.set i b}
def AH.new(H:AH)(b:eT):AH:={n:=H.n+1,t:=H.t.set H.n b}
@[simp] theorem AH.new_n(H:AH)(b):(H.new b).n=H.n+1:=rfl
@[simp] theorem AH.set_n(H:AH)(i)(b):(H.set i b).n=H.n:=rfl
theorem AH.bH(H:AH)(i j)(b):(H.set i b).get j=if j=i then b else H.get j:=by
 simp only[AH.get,AH.set,Tr.bH]
 grind
theorem AH.kI(H:AH)(j)(b):(H.new b).get j=if j=H.n then b else H.get j:=by
 simp only[AH.get,AH.new,Tr.bH]
 grind
theorem AH.nj(H:AH)(b):(H.new b).get H.n=b:=by rw[AH.kI,if_pos A]
theorem AH.cV(H:AH)(b){i}(h:i≠H.n):(H.new b).get i=H.get i:=by rw[AH.kI,if_neg h]
theorem AH.pr(H:AH)(b){i j}(h:i≠j):(H.set i b).get j=H.get j:=by rw[AH.bH,if_neg (λe=>h e.symm)]
theorem AH.get_set_same(H:AH)(b)(i):(H.set i b).get i=b:=by rw[AH.bH,if_pos A]
structure pU (rw:Access) (el:TypeId) (fr:Nat×Nat) (N:Nat):Prop where
 w:rw.w=true->∀i,i<N->¬ (fr.1<=i/\i<fr.2)
 ty:∀e,rw= .ty e->el=e
 ex:∀m,rw= .ex m->N=m
def aJ(ρ:Env)(w:World)(o:Option (Nat×Nat))(cs:List AV)(rw:Access):Prop :=
 (cs=[]/\o=b_)∨∃b N vs rest el fr,o=M (b,N)/\w.heap[b]? =M (.cells (vs++rest).toArray el fr)/\(vs++rest).length=N/\aU ρ cs vs/\
   pU rw el fr N/\(∀v∈vs,v.oneCell'=true)/\(rw= .ro->ρ.fz b=M (vs++rest))
def rowsOf(n:Nat)(f:Nat->List AV):List AV:=(z n).flatMap f
def gx(s:List UInt8)(i:Nat):List AV:=[.int .u8 (s.getD i 0).toNat]
def byteCells(s:List UInt8):List AV:=s.map λb=> .int .u8 b.toNat
def dM(n:Nat)(K:Nat->Int):List MapEntry:=(z n).map λi=>{key:=.int w_ (K i),val:=.bool true,born:=i}
def iL(ks:List Int):Value:=.agg (ks.map λx=>Value.int w_ x).toArray
def bT(n:Nat)(K:Nat->List Int)(u:Nat->Value):List MapEntry:=(z n).map λi=>{key:=iL (K i),val:=u i,born:=i}
def bp(ρ:Env)(w:World)(o:Option (Nat×Nat)):eT->Prop
 | .cells cs rw=>aJ ρ w o cs rw
 | .rows n e f rw=>(∀i,i<n->(f i).length=e)/\aJ ρ w o (rowsOf n f) rw
 | .str s rw=>aJ ρ w o (byteCells s) rw
 | .map es=> ∃b N,∃(ms:List MapEntry)(g:Nat),o=M (b,N)/\w.heap[b]? =M (.map ms.toArray g)/\r9 ρ es ms/\(es=[]->g=0)
 | .loop h k t nt p as q df=> ∃b N d c fn vs,o=M (b,N)/\ρ df=M (d,c)/\uw ρ t nt vs/\
   w.heap[b]? =M (.loop {state:=h,pending:=k,fn:=fn,tmps:=vs,params:=p.toArray,assign:=as,body:=q,defers:=d})
 | .tE=> ∃b N,o=M (b,N)/\w.heap[b]? =M (.deferred (M []))
 | .iter l=> ∃b N m c since last,o=M (b,N)/\ρ l=M (m,c)/\since<=last/\w.heap[b]? =M (.mapIter (M m) since #[] last)
 | .iy n K=> ∃b N,o=M (b,N)/\w.heap[b]? =M (.map (dM n K).toArray n)
 | .dX l since S=> ∃b N m c,o=M (b,N)/\ρ l=M (m,c)/\w.heap[b]? =M (.mapIter (M m) since S.reverse.toArray since)
 | .cT n K Q foc=> ∃b N,∃u:Nat->Value,o=M (b,N)/\w.heap[b]? =M (.map (bT n K u).toArray n)/\(∀i,i<n->VR ρ (Q i) (u i))/\∀j a,foc=M (j,a)->j<n/\VR ρ a (u j)
 | .dead=>True
def eT.un:eT->eT
 | .str s rw=> .rows s.length 1 (gx s) rw
 |b=>b
theorem eT.Kk(b:eT):b.un.rw=b.rw:=by cases b<;>rfl
theorem kJ(s):rowsOf s.length (gx s)=byteCells s:=by
 have:∀n,n<=s.length->rowsOf n (gx s)=byteCells (s.take n):=by
  intro n
  induction n with
  |zero=>intro _;rfl
  |succ n a=>
   intro hn
   have:rowsOf (n+1) (gx s)=rowsOf n (gx s)++gx s n:=by simp[rowsOf,h_]
   rw[this,a O,List.take_add_one,mo O]
   show _=List.map _ (_++_)
   rw[s_]
   refine congr A ?_
   simp[gx,List.getD_eq_getElem?_getD,mo (O:n<s.length)]
 grind
theorem bp.un{ρ w o b}(h:bp ρ w o b):bp ρ w o b.un:=by
 cases b with
 |str s rw=>exact⟨λ_ _=>rfl,by rw[kJ];exact h⟩
 |_=>exact h
def Lk(g:Nat):Nat:=[1,0,3,2,9,10,4,5,6,7,8,11].getD g g
def ux(l:Nat):Nat:=[1,0,3,2,6,7,8,9,10,4,5,11].getD l l
structure fw where
 w0:World
 Z:Nat->Prop
 G:Nat
 X:Nat->Prop
 E:Nat->Prop
 DI:Env
structure Rel (c:fw) (ρ:Env) (H:AH) (w:World):Prop where
 dF:∀l,bp ρ w (ρ l) (H.get l)
 sep:∀l l' r N N',l≠l'->(H.get l).rw=true->ρ l=M (r,N)->ρ l'=M (r,N')->H.get l'= .dead
 gL:∀l r N,(H.get l).rw=true->ρ l=M (r,N)->¬ c.Z r
 gH:∀k,c.Z k∨c.X k->k<c.w0.heap.size/\w.heap[k]? =c.w0.heap[k]?
 size:c.w0.heap.size<=w.heap.size
 os:w.os=c.w0.os
 output:w.output=c.w0.output
 tape:w.tape=c.w0.tape
 top:∀l,H.n<=l->ρ l=b_
 fp:∀g,g<c.G->∃N,ρ g=M (ux g,N)
 hid:∀l r N,H.get l≠ .dead->ρ l=M (r,N)->¬ c.X r
 env:∀l,c.E l->l<H.n/\ρ l=c.DI l
 low:∀l,H.n<=l->H.get l= .dead
 qY:∀b vs,ρ.fz b=M vs->∃el fr,w.heap[b]? =M (.cells vs.toArray el fr)
 pV:∀l r N,(H.get l).rw=true->ρ l=M (r,N)->ρ.fz r=b_
 xw:∀b,c.X b->ρ.fz b=b_
 qZ:∀b vs,c.DI.fz b=M vs->ρ.fz b=M vs
theorem Rel.below{c ρ H w}(h:Rel c ρ H w){l}(b:H.get l≠ .dead):l<H.n:=Nat.lt_of_not_le λa=>b (h.low l a)
theorem Rel.oZ{c ρ H w}(h:Rel c ρ H w){l}(a:(H.get l).rw=true):l<H.n:=h.below λe=>by rw[e]at a;cases a
theorem aJ.ext{ρ ρ':Env}{w:World}{o:Option (Nat×Nat)}{cs:List AV}{rw:Access}(h:Ext ρ ρ')(k:aJ ρ w o cs rw):aJ ρ' w o cs rw:=by
 rcases k with k|⟨b,N,vs,rest,el,fr,h1,c,d,f,a⟩
 ·exact .inl k
 ·exact .inr ⟨b,N,vs,rest,el,fr,h1,c,d,aU.ext h _ _ f,a.1,a.2.1,λe=>h.fz _ _ (a.2.2 e)⟩
theorem aJ.world{ρ:Env}{w w':World}{o:Option (Nat×Nat)}{cs:List AV}{rw:Access}(a:∀r N,o=M (r,N)->w'.heap[r]? =w.heap[r]?)(k:aJ ρ w o cs rw):aJ ρ w' o cs rw:=by
 rcases k with k|⟨b,N,vs,rest,el,fr,h1,c,d⟩
 ·exact .inl k
 ·exact .inr ⟨b,N,vs,rest,el,fr,h1,(a _ _ h1).trans c,d⟩
theorem aJ.lt{ρ:Env}{w:World}{r N:Nat}{cs:List AV}{rw:Access}(k:aJ ρ w (M (r,N)) cs rw):r<w.heap.size:=by
 rcases k with⟨_,k⟩|⟨b,N,vs,rest,el,fr,h1,a,_⟩
 all_goals grind
theorem bp.ext{ρ ρ' w o b}(h:Ext ρ ρ')(k:bp ρ w o b):bp ρ' w o b:=by
 cases b with
 |cells cs rw=>exact aJ.ext h k
 |rows n e f rw=>exact⟨k.1,aJ.ext h k.2⟩
 |str s rw=>exact aJ.ext h k
 |map es=>
  obtain⟨b,N,ms,B,q,v,⟨D,y,C,E⟩,F⟩:=k
  exact⟨b,N,ms,B,q,v,⟨D,aU.ext h _ _ y,aU.ext h _ _ C,E⟩,F⟩
 |loop G H t nt I as J df=>
  obtain⟨b,N,d,c,fn,vs,q,v,y,C⟩:=k
  exact⟨b,N,d,c,fn,vs,q,h _ _ v,y.ext h,C⟩
 |tE=>exact k
 |iter l=>
  obtain⟨b,N,m,c,since,last,q,v,y⟩:=k
  exact⟨b,N,m,c,since,last,q,h _ _ v,y⟩
 |iy n K=>exact k
 |dX l since S=>
  obtain⟨b,N,m,c,q,v,y⟩:=k
  exact⟨b,N,m,c,q,h _ _ v,y⟩
 |cT n K Q foc=>
  obtain⟨b,N,u,q,v,y,C⟩:=k
  exact⟨b,N,u,q,v,λi hi=>VR.ext h _ _ (y i hi),λj a e=>⟨(C j a e).1,VR.ext h _ _ (C j a e).2⟩⟩
 |dead=>trivial
theorem bp.world{ρ:Env}{w w':World}{o:Option (Nat×Nat)}{b:eT}(i:∀r N,o=M (r,N)->w'.heap[r]? =w.heap[r]?)(k:bp ρ w o b):bp ρ w' o b:=by
 cases b with
 |cells cs rw=>exact aJ.world i k
 |rows n e f rw=>exact⟨k.1,aJ.world i k.2⟩
 |str s rw=>exact aJ.world i k
 |map es=>
  obtain⟨b,N,ms,q,c,h,j⟩:=k
  exact⟨b,N,ms,q,c,(i _ _ c).trans h,j⟩
 |loop y B t nt C as D df=>
  obtain⟨b,N,d,a,fn,vs,c,h,j,v⟩:=k
  exact⟨b,N,d,a,fn,vs,c,h,j,(i _ _ c).trans v⟩
 |tE=>
  obtain⟨b,N,c,h⟩:=k
  exact⟨b,N,c,(i _ _ c).trans h⟩
 |iter l=>
  obtain⟨b,N,m,a,since,last,c,h,j,v⟩:=k
  exact⟨b,N,m,a,since,last,c,h,j,(i _ _ c).trans v⟩
 |iy n K=>
  obtain⟨b,N,c,h⟩:=k
  exact⟨b,N,c,(i _ _ c).trans h⟩
 |dX l since S=>
  obtain⟨b,N,m,a,c,h,j⟩:=k
  exact⟨b,N,m,a,c,h,(i _ _ c).trans j⟩
 |cT n K Q foc=>
  obtain⟨b,N,u,c,h,j⟩:=k
  exact⟨b,N,u,c,(i _ _ c).trans h,j⟩
 |dead=>trivial
theorem Rel.congr{c ρ H H' w}(h:Rel c ρ H w)(hn:H'.n=H.n)(d:∀i,H'.get i=H.get i):Rel c ρ H' w :=
 ⟨λl=>by rw[d];exact h.dF l,λl m r N o f a b q=>by rw[d]at a⊢;exact h.sep l m r N o f a b q,λl r N a b=>by rw[d]at a;exact h.gL l r N a b,
  h.gH,h.size,h.os,h.output,h.tape,λl hl=>h.top l O,h.fp,λl r N j b=>by rw[d]at j;exact h.hid l r N j b,λl hl=>by rw[hn];exact h.env l hl,λl hl=>by rw[d];exact h.low l O,h.qY,λl r N a b=>by rw[d]at a;exact h.pV l r N a b,h.xw,h.qZ⟩
theorem Rel.drawn{c ρ H w}(h:Rel c ρ H w)(n):Rel c ρ H {w with drawn:=n}:=
 ⟨λl=>bp.world (λ_ _ _=>rfl) (h.dF l),h.sep,h.gL,h.gH,h.size,h.os,h.output,h.tape,h.top,h.fp,h.hid,h.env,h.low,h.qY,h.pV,h.xw,h.qZ⟩
def Env.put(ρ:Env)(l:Nat)(x:Nat×Nat):Env:=⟨λi=>if i=l then M x else ρ i,ρ.fz⟩
theorem Env.S9(ρ:Env)(l)(x):(ρ.put l x).fz=ρ.fz:=rfl
theorem Env.cP(ρ:Env)(l)(x): ρ.put l x l=M x:=by simp[Env.put]
theorem Env.ec(ρ:Env){l i}(x)(h:i≠l): ρ.put l x i=ρ i:=by simp[Env.put,h]
theorem Env.nk{ρ l}(x)(h:ρ l=b_):Ext ρ (ρ.put l x):=by
 refine⟨λi y e=>?_,λ_ _ e=>e⟩
 by_cases hi:i=l
 grind
 ·rw[Env.ec _ _ hi];exact e
theorem Rel.lt{c ρ H w}(h:Rel c ρ H w){l r N}(hl:H.get l≠ .dead)(j:ρ l=M (r,N)):r<w.heap.size:=by
 have:=h.dF l
 have key:∀o,w.heap[r]? =M o->r<w.heap.size:=λo e=>(Array.getElem?_eq_some_iff.1 e).1
 cases i:H.get l with
 |dead=>exact absurd i hl
 |cells cs rw=>rw[i,j]at this;exact aJ.lt this
 |rows n e f rw=>rw[i,j]at this;exact aJ.lt this.2
 |str s rw=>rw[i,j]at this;exact aJ.lt this
 |map es=>
  rw[i,j]at this
  obtain⟨b,q,ms,B,v,y,_⟩:=this
  grind
 |loop E F t nt G as I df=>
  rw[i,j]at this
  obtain⟨b,q,d,a,fn,vs,v,_,_,D⟩:=this
  grind
 |tE=>
  rw[i,j]at this
  obtain⟨b,q,v,y⟩:=this
  grind
 |iter l=>
  rw[i,j]at this
  obtain⟨b,q,m,a,since,last,v,y,C,D⟩:=this
  grind
 |iy n K=>
  rw[i,j]at this
  obtain⟨b,q,v,y⟩:=this
  grind
 |dX l since S=>
  rw[i,j]at this
  obtain⟨b,q,m,a,v,y,C⟩:=this
  grind
 |cT n K Q foc=>
  rw[i,j]at this
  obtain⟨b,q,u,v,y,C⟩:=this
  grind
theorem iz{w:World}{o k}(h:k<w.heap.size):(w.heap.push o)[k]? =w.heap[k]? :=by
 grind
theorem Rel.new{c:fw}{ρ:Env}{H:AH}{w:World}(h:Rel c ρ H w)(o:Obj)(N:Nat)(b:eT)
  (v:∀w':World,w'.heap[w.heap.size]? =M o->bp (ρ.put H.n (w.heap.size,N)) w' (M (w.heap.size,N)) b):
  Ext ρ (ρ.put H.n (w.heap.size,N))/\Rel c (ρ.put H.n (w.heap.size,N)) (H.new b) {w with heap:=w.heap.push o}:=by
 have hn:ρ H.n=b_:=h.top _ (dw _)
 have hx:=Env.nk (w.heap.size,N) hn
 refine⟨hx,⟨λl=>?_,λl s r a y q f d m=>?_,λl r a f d=>?_,λk B=>?_,?_,h.os,h.output,h.tape,λl hl=>?_,λg C=>?_,λl r a j d=>?_,λl hl=>?_,λl hl=>by rw[AH.cV _ _ (by simp at hl;omega)];exact h.low l (by simp at hl;omega),λk vs e=>?_,λl r a f d=>?_,h.xw,h.qZ⟩⟩
 ·by_cases hl:l=H.n
  ·subst hl
   rw[AH.nj,Env.cP]
   exact v _ zA
  ·rw[AH.cV _ _ hl,Env.ec _ _ hl]
   by_cases j:H.get l= .dead
   ·rw[j];trivial
   ·exact bp.world (λr a e=>iz (h.lt j e)) ((h.dF l).ext hx)
 ·by_cases hl:l=H.n
  ·subst hl
   rw[Env.cP]at d
   cases d
   have i:s≠H.n:=λe=>q e.symm
   rw[Env.ec _ _ i]at m
   rw[AH.cV _ _ i]
   apply Classical.byContradiction
   intro j
   have:=h.lt j m
   omega
  ·rw[Env.ec _ _ hl]at d
   rw[AH.cV _ _ hl]at f
   have j:H.get l≠ .dead:=λe=>by rw[e]at f;cases f
   have D:=h.lt j d
   by_cases i:s=H.n
   ·subst i
    rw[Env.cP]at m
    grind
   ·rw[Env.ec _ _ i]at m
    rw[AH.cV _ _ i]
    exact h.sep l s r a y q f d m
 ·by_cases hl:l=H.n
  ·subst hl
   rw[Env.cP]at d
   cases d
   intro t
   have:=(h.gH _ (.inl t)).1
   have:=h.size
   omega
  ·rw[Env.ec _ _ hl]at d
   rw[AH.cV _ _ hl]at f
   exact h.gL l r a f d
 ·obtain⟨d,m⟩:=h.gH k B
  grind
 ·have:=h.size;simp;omega
 ·rw[Env.ec _ _ (by simp at hl;omega)]
  exact h.top l (by simp at hl;omega)
 ·obtain⟨a,E⟩:=h.fp g C
  exact⟨a,hx _ _ E⟩
 ·by_cases hl:l=H.n
  ·subst hl
   rw[Env.cP]at d
   cases d
   intro t
   have:=(h.gH _ (.inr t)).1
   have:=h.size
   omega
  ·rw[Env.ec _ _ hl]at d
   rw[AH.cV _ _ hl]at j
   exact h.hid l r a j d
 ·obtain⟨d,m⟩:=h.env l hl
  exact⟨by simp;omega,by rw[Env.ec _ _ O];exact m⟩
 ·obtain⟨el,fr,F⟩:=h.qY k vs e
  grind
 ·by_cases hl:l=H.n
  ·subst hl
   rw[Env.cP]at d
   cases d
   cases u:ρ.fz w.heap.size with
   |none=>exact u
   |some vs=>
    obtain⟨el,fr,F⟩:=h.qY _ _ u
    grind
  ·rw[Env.ec _ _ hl]at d
   rw[AH.cV _ _ hl]at f
   exact h.pV l r a f d
theorem Rel.fC{c ρ H w w'}(h:Rel c ρ H w){l r N}(b)(f:(H.get l).rw=true)(y:ρ l=M (r,N))
  (j:∀k,k≠r->w'.heap[k]? =w.heap[k]?) (I:w'.heap.size=w.heap.size) (J:w'.os=w.os) (B:w'.output=w.output) (v:w'.tape=w.tape)
  (O:bp ρ w' (M (r,N)) b):Rel c ρ (H.set l b) w':=by
 have i:∀d,d≠l->(H.set l b).get d=H.get d:=λd e=>AH.pr _ _ (λC=>e C.symm)
 refine⟨λd=>?_,λl1 l2 r1 a K u s o D=>?_,λd t a m o=>?_,λk L=>?_,?_,J.trans h.os,B.trans h.output,v.trans h.tape,λd q=>h.top d (by simpa using q),h.fp,λd t a E o=>?_,λd q=>by simpa using h.env d q,λd q=>by rw[i d (λe=>by subst e;have:=h.oZ f;simp at q;omega)];exact h.low d (by simpa using q),λk vs e=>?_,λd t a m o=>?_,h.xw,h.qZ⟩
 ·by_cases hl:d=l
  ·subst hl
   rw[AH.get_set_same,y];exact O
  ·rw[i d hl]
   by_cases E:H.get d= .dead
   ·rw[E];trivial
   ·refine bp.world (λt a e=>j t λC=>?_) (h.dF d)
    subst C
    exact E (h.sep l d t N a (λe=>hl e.symm) f y e)
 ·by_cases F:l1=l
  ·subst F
   rw[i l2 (λe=>u e.symm)]
   exact h.sep l1 l2 r1 a K u f o D
  ·rw[i l1 F]at s
   by_cases G:l2=l
   ·subst G
    have:=h.sep l1 l2 r1 a K u s o D
    rw[this]at f;cases f
   ·rw[i l2 G]
    exact h.sep l1 l2 r1 a K u s o D
 ·by_cases hl:d=l
  ·subst hl
   exact h.gL d t a f o
  ·rw[i d hl]at m
   exact h.gL d t a m o
 ·obtain⟨o,D⟩:=h.gH k L
  refine⟨o,?_⟩
  rw[<-D]
  refine j k λe=>?_
  subst e
  exact L.elim (h.gL l k N f y) (h.hid l k N (λe=>by rw[e]at f;cases f) y)
 ·rw[I];exact h.size
 ·by_cases hl:d=l
  ·subst hl
   exact h.hid d t a (λe=>by rw[e]at f;cases f) o
  ·rw[i d hl]at E
   exact h.hid d t a E o
 ·obtain⟨el,fr,P⟩:=h.qY k vs e
  refine⟨el,fr,(j k λC=>?_).trans P⟩
  subst C
  have:=h.pV l k N f y
  grind
 ·by_cases hl:d=l
  ·subst hl
   exact h.pV d t a f o
  ·rw[i d hl]at m
   exact h.pV d t a m o
theorem Rel.kill{c ρ H w}(h:Rel c ρ H w)(l):Rel c ρ (H.set l .dead) w:=by
 have f:∀d,(H.set l .dead).get d=H.get d∨(H.set l .dead).get d= .dead:=λd=>by
  by_cases e:d=l
  ·subst e
   exact .inr (AH.get_set_same H .dead d)
  ·exact .inl (AH.pr _ _ (λs=>e s.symm))
 refine⟨λd=>?_,λl1 l2 r a t m b j u=>?_,λd r a b j=>?_,h.gH,h.size,h.os,h.output,h.tape,λd i=>h.top d (by simpa using i),h.fp,λd r a o j=>?_,λd i=>by simpa using h.env d i,λd i=>(f d).elim (λe=>e.trans (h.low d (by simpa using i))) id,h.qY,λd r a b j=>?_,h.xw,h.qZ⟩
 ·rcases f d with e|e
  ·rw[e];exact h.dF d
  ·rw[e];trivial
 ·rcases f l1 with e|e
  ·rw[e]at b
   rcases f l2 with q|q
   ·rw[q];exact h.sep l1 l2 r a t m b j u
   ·exact q
  ·rw[e]at b;cases b
 ·rcases f d with e|e
  ·rw[e]at b;exact h.gL d r a b j
  ·rw[e]at b;cases b
 ·rcases f d with e|e
  ·rw[e]at o;exact h.hid d r a o j
  ·exact absurd e o
 ·rcases f d with e|e
  ·rw[e]at b;exact h.pV d r a b j
  ·rw[e]at b;cases b
end
section
structure RI (R:Type) where
 fail:R
 cond:Bool->(Unit->R)->(Unit->R)->R
 bq:Bool->R->R
structure RI.Ok {R:Type} (X:RI R) (sem:R->Prop):Prop where
 fail :¬ sem X.fail
 cond:∀b x a,sem (X.cond b x a)->if b=true then sem (x ())else sem (a ())
 bq:∀b x,sem (X.bq b x)->b=true/\sem x
def ah(b:Bool)(x y:Prop):Prop:=match b with|true=>x|false=>y
def aa(b:Bool)(x:Prop):Prop:=match b with|true=>x|false=>False
theorem Ze{b x}(h:b=true)(k:x):aa b x:=by subst h;exact k
theorem Zh{b x y}(h:b=true->x)(k:b=false->y):ah b x y:=by cases b with|true=>exact h A|false=>exact k A
def RI.jY:RI Prop:={fail:=False,cond:=λb x y=>ah b (x ()) (y ()),bq:=aa}
theorem RI.dJ:RI.jY.Ok id:=⟨λh=>h,λb _ _ h=>by cases b<;>exact h,λb _ h=>by
 cases b with
 |true=>exact⟨rfl,h⟩
 |false=>exact h.elim⟩
mutual
def dN:Value->Option AV
 | .bool b=>M (.bool b)
 | .int k n=>M (.int k n)
 | .string ⟨⟨s⟩⟩=>M (.str s)
 | .pointer b_=>M .nilPtr
 | .slice b_ 0 0=>M .aw
 | .map b_=>M (.map b_)
 | .nilFunc=>M .aB
 | .nilIface=>M .nilIface
 | .func (.func f) ⟨[]⟩ ⟨[]⟩=>M (.fn f [] [])
 | .iface t v=>(dN v).map (.iface t)
 | .agg ⟨cs⟩=>(sq cs).map .agg
 | .tuple ⟨cs⟩=>(sq cs).map .qP
 |_=>b_
def sq:List Value->Option (List AV)
 |[]=>M []
 |v::vs=>(dN v).bind λa=>(sq vs).map (a :: ·)
end
mutual
theorem jZ(ρ:Env):∀(v:Value)(a:AV),dN v=M a->VR ρ a v
 | .bool b,a,h=>by simp only[dN,fE]at h;subst h;simp[VR]
 | .int k n,a,h=>by simp only[dN,fE]at h;subst h;simp[VR]
 | .string ⟨⟨s⟩⟩,a,h=>by simp only[dN,fE]at h;subst h;simp[VR]
 | .pointer b_,a,h=>by simp only[dN,fE]at h;subst h;simp[VR]
 | .slice b_ 0 0,a,h=>by simp only[dN,fE]at h;subst h;simp[VR]
 | .map b_,a,h=>by simp only[dN,fE]at h;subst h;simp[VR]
 | .nilFunc,a,h=>by simp only[dN,fE]at h;subst h;simp[VR]
 | .nilIface,a,h=>by simp only[dN,fE]at h;subst h;simp[VR]
 | .func (.func f) ⟨[]⟩ ⟨[]⟩,a,h=>by
  simp only[dN,fE]at h
  subst h
  simp only[VR]
  exact⟨[],[],rfl,zH,zH⟩
 | .func (.func _) ⟨[]⟩ ⟨_::_⟩,a,h=>zL
 | .iface t v,a,h=>by
  simp only[dN,e_]at h
  obtain⟨x,c,rfl⟩:=h
  simp only[VR]
  exact⟨v,rfl,jZ ρ v x c⟩
 | .agg ⟨cs⟩,a,h=>by
  simp only[dN,e_]at h
  obtain⟨as,c,rfl⟩:=h
  simp only[VR]
  exact⟨cs,rfl,ss ρ cs as c⟩
 | .tuple ⟨cs⟩,a,h=>by
  simp only[dN,e_]at h
  obtain⟨as,c,rfl⟩:=h
  simp only[VR]
  exact⟨cs,rfl,ss ρ cs as c⟩
 | .float _ _,a,h=>zL
 | .complex _ _ _,a,h=>zL
 | .pointer (M _),a,h=>zL
 | .slice (M _) _ _,a,h=>zL
 | .slice b_ (_+1) _,a,h=>zL
 | .slice b_ 0 (_+1),a,h=>zL
 | .map (M _),a,h=>zL
 | .chan _,a,h=>zL
 | .func (.func _) ⟨_::_⟩ _,a,h=>zL
 | .func (.method _) _ _,a,h=>zL
 | .func (.methodOf _ _) _ _,a,h=>zL
 | .func (.via _ _ _ _) _ _,a,h=>zL
 | .func (.yield _) _ _,a,h=>zL
theorem ss(ρ:Env):∀(vs:List Value)(as:List AV),sq vs=M as->aU ρ as vs
 |[],as,h=>by simp only[sq,fE]at h;subst h;simp[aU]
 |v::vs,as,h=>by
  simp only[sq,Option.bind_eq_some_iff,e_]at h
  obtain⟨a,c,d,e,rfl⟩:=h
  exact aU.aL.2 ⟨jZ ρ v a c,ss ρ vs d e⟩
end
structure ba where
 dI:TypeId->Option TypeDesc
 size:TypeId->Option Nat
 bytes:TypeId->Option Nat
 zero:TypeId->Option AV
 body:FuncId->Option (Code×Nat×List ResultVar)
 OI:TypeId->Bool
 fields:TypeId->Option (List (TypeId×Nat))
 held:TypeId->Bool
 G:Nat
 wr:Bool
structure ba.Ok (I:ba) (P:Program):Prop where
 dI:∀e b,I.dI e=M b->P.underlying e=M b
 size:∀e n,I.size e=M n->∃i,P.info? e=M i/\i.size=n
 bytes:∀e n,I.bytes e=M n->∃i,P.info? e=M i/\i.bytes=n
 zero:∀e a,I.zero e=M a->∃i g,P.info? e=M i/\i.zero=M g/\dN g=M a
 body:∀f c n rs,I.body f=M (c,n,rs)->∃fn,P.funcs[f]? =M fn/\fn.body=M c/\fn.ntmps=n/\fn.results.toList=rs/\∀args w,(callFunc f args).run P w= .ok (.enter f args) w
 OI:∀e,I.OI e=true->P.eqGuardType P.depth e=false
 fields:∀e l,I.fields e=M l->∃fs,P.underlying e=M (.struct fs)/\l=fs.toList.map (λf=>(f.type,f.offset))/\∀f∈fs.toList,f.name≠ "_"
 held:∀e,I.held e=true->P.stoodInHeld e=false
 mixed:P.follows .mixedOrders=true
section
variable {I:ba} {P:Program} (hI:I.Ok P) (w:World)
include hI
theorem ba.Ok.aW{t d}(h:I.dI t=M d):(underlying t).run P w= .ok d w:=by
 simp[underlying,hI.dI t d h]
theorem ba.Ok.ca{t n}(h:I.size t=M n):(sizeOf t).run P w= .ok n w:=by
 obtain⟨i,a,b⟩:=hI.size t n h
 simp[sizeOf,typeInfo,a,b]
theorem ba.Ok.mq{t a}(h:I.zero t=M a):∃b,(zeroValue t).run P w= .ok b w/\∀ρ,VR ρ a b:=by
 obtain⟨i,b,c,d,f⟩:=hI.zero t a h
 exact⟨b,by simp[zeroValue,typeInfo,c,d],λρ=>jZ ρ b a f⟩
end
def AV.one:AV->Bool
 | .agg _| .qP _| .any=>false
 |_=>true
def AV.cells? :AV->Option (List AV)
 | .agg cs=>bif cs.all AV.one then M cs else b_
 | .qP _| .any=>b_
 |a=>M [a]
theorem AV.k9{a:AV}{cs}(h:a.cells? =M cs):cs.all AV.one=true:=by
 cases a<;>simp only[AV.cells?,fE,reduceCtorEq]at h
 case agg xs=>
  grind
 all_goals subst h;rfl
theorem VR.one{ρ:Env}{a:AV}{v:Value}(h:VR ρ a v)(ha:a.one=true):v.oneCell'=true:=by
 cases a with
 |bool|int|str|nilPtr|aw|aB|nilIface=>simp only[VR]at h;subst h;rfl
 |ptr=>simp only[VR]at h;obtain⟨_,_,_,rfl⟩:=h;rfl
 |slice=>simp only[VR]at h;obtain⟨_,_,_,_,_,rfl,_⟩:=h;rfl
 |own=>simp only[VR]at h;rcases h with⟨_,rfl⟩|⟨_,_,_,_,rfl,_⟩<;>rfl
 |map l=>
  cases l<;>simp only[VR]at h
  ·subst h;rfl
  ·obtain⟨_,_,_,rfl⟩:=h;rfl
 |fn=>simp only[VR]at h;obtain⟨_,_,rfl,_⟩:=h;rfl
 |yield=>simp only[VR]at h;obtain⟨_,_,_,rfl⟩:=h;rfl
 |iface=>simp only[VR]at h;obtain⟨_,rfl,_⟩:=h;rfl
 |fc=>simp only[VR]at h;obtain⟨_,_,_,rfl,_⟩:=h;rfl
 |addr=>simp only[VR]at h;subst h;rfl
 |ab=>simp only[VR]at h;rcases h with⟨_,rfl⟩|⟨_,_,_,_,_,rfl,_⟩<;>rfl
 |agg|qP|any=>simp[AV.one]at ha
theorem VR.cells_one{ρ a v}(h:VR ρ a v)(ha:a.one=true):v.cells.toList=[v]:=by
 have:=VR.one h ha
 cases v<;>simp_all[Value.oneCell',Value.cells]
theorem VR.cells{ρ a v cs}(h:VR ρ a v)(b:a.cells? =M cs):aU ρ cs v.cells.toList:=by
 by_cases ha:a.one=true
 ·rw[VR.cells_one h ha]
  have:cs=[a]:=by cases a<;>simp_all[AV.one,AV.cells?]
  subst this
  exact aU.aL.2 ⟨h,zH⟩
 ·cases a with
  |agg xs=>
   simp only[AV.cells?]at b
   cases hx:xs.all AV.one<;>rw[hx]at b<;>simp at b
   subst b
   simp only[VR]at h
   obtain⟨vs,rfl,h⟩:=h
   assumption
  |qP|any=>simp[AV.cells?]at b
  |_=>simp[AV.one]at ha
theorem aU.Kl{ρ}:∀{as vs},aU ρ as vs->as.all AV.one=true->∀v∈vs,v.oneCell'=true
 |[],vs,h,_,v,b=>by simp only[aU]at h;subst h;cases b
 |a::as,vs,h,ha,v,b=>by
  simp only[aU]at h
  obtain⟨u,us,rfl,r,s⟩:=h
  simp only[List.all_cons,bf]at ha
  rcases List.mem_cons.1 b with rfl|b
  ·exact VR.one r ha.1
  ·exact aU.Kl s ha.2 v b
theorem addr_add(b o n):Addr.add ⟨b,o,b_⟩ n=⟨b,o+n,b_⟩:=by
 unfold Addr.add
 simp
def eT.F5:eT->(k e j n:Nat)->Option (Bool×List AV)
 | .cells cs _,k,e,j,n=>M (g_ (k*e+j+n<=cs.length),(cs.drop (k*e+j)).take n)
 | .rows m a f _,k,e,j,n=>if e=a/\j+n<=a then M (g_ (k<m),((f k).drop j).take n)else b_
 |_,_,_,_,_=>b_
def eT.at(b:eT)(k e j n:Nat):Option (Bool×List AV):=b.un.F5 k e j n
theorem dl(n)(f):rowsOf (n+1) f=rowsOf n f++f n:=by simp[rowsOf,h_]
theorem nX{n e f}(h:∀i,i<n->(f i).length=e):(rowsOf n f).length=n*e:=by
 induction n with
 |zero=>simp[rowsOf]
 |succ n a=>
  rw[dl,j_,a (λi hi=>h i O),h n O,m_]
theorem lL{n e f}(h:∀i,i<n->(f i).length=e){k}(c:k<n):∃t,(rowsOf n f).drop (k*e)=f k++t:=by
 induction n with
 |zero=>omega
 |succ n b=>
  have hl:=nX (n:=n) (e:=e) (f:=f) (λi hi=>h i O)
  rw[dl]
  by_cases a:k<n
  ·obtain⟨t,ht⟩:=b (λi hi=>h i O) a
   have:k*e<=n*e:=n_ e O
   grind
  ·have:k=n:=by omega
   simp_all
theorem eT.Ta{ρ:Env}{w:World}{r N:Nat}{b:eT}{k e j n:Nat}{l:List AV}(h:bp ρ w (M (r,N)) b)(ha:b.F5 k e j n=M (true,l)):
  ∃us:List Value,aU ρ l us/\us.length=n/\k*e+j+n<=N/\∀(i:Nat) v,us[i]? =M v->w.cell? ⟨r,k*e+j+i,b_⟩=M v:=by
 have key:∀(cs:List AV) rw,aJ ρ w (M (r,N)) cs rw->k*e+j+n<=cs.length->∃us:List Value,aU ρ ((cs.drop (k*e+j)).take n) us/\us.length=n/\k*e+j+n<=N/\
   ∀(i:Nat) v,us[i]? =M v->w.cell? ⟨r,k*e+j+i,b_⟩=M v:=by
  intro cs rw c hl
  rcases c with⟨_,s⟩|⟨b,C,vs,rest,el,fr,h1,u,y,o,_⟩
  ·cases s
  ·cases h1
   have a:=o.length_eq
   refine⟨(vs.drop (k*e+j)).take n,(o.drop _).take _,by simp;omega,by simp at y;omega,λi v q=>?_⟩
   have hi:i<n:=by
    have:=List.getElem?_eq_some_iff.1 q
    obtain⟨h,_⟩:=this
    simp at h;omega
   rw[l_ hi,o_]at q
   simp only[World.cell?,u]
   grind
 cases b with
 |cells cs rw=>
  simp only[eT.F5,fE,Prod.mk.injEq,bn]at ha
  obtain⟨hl,rfl⟩:=ha
  exact key cs rw h hl
 |rows m D f rw=>
  simp only[eT.F5]at ha
  split at ha
  ·rename_i c
   obtain⟨rfl,E⟩:=c
   simp only[fE,Prod.mk.injEq,bn]at ha
   obtain⟨d,rfl⟩:=ha
   have a:=nX h.1
   have B:k*e+e<=m*e:=by
    have:=n_ e (O:k+1<=m)
    rw[m_]at this;exact this
   obtain⟨t,ht⟩:=lL h.1 d
   have:=key (rowsOf m f) rw h.2 O
   rw[<-List.drop_drop,ht,List.drop_append_of_le_length (by rw[h.1 k d];omega),List.take_append_of_le_length (by rw[List.length_drop,h.1 k d];omega)]at this
   exact this
  ·cases ha
 |str=>simp[eT.F5]at ha
 |map es=>simp[eT.F5]at ha
 |loop=>simp[eT.F5]at ha
 |tE=>simp[eT.F5]at ha
 |iter=>simp[eT.F5]at ha
 |iy=>simp[eT.F5]at ha
 |cT=>simp[eT.F5]at ha
 |dX=>simp[eT.F5]at ha
 |dead=>simp[eT.F5]at ha
theorem eT.F6{ρ w r N b k e j n a}(h:bp ρ w (M (r,N)) b)(ha:b.at k e j n=M (true,a)):
  ∃us,aU ρ a us/\us.length=n/\k*e+j+n<=N/\∀(i) v,us[i]? =M v->w.cell? ⟨r,k*e+j+i,b_⟩=M v:=eT.Ta h.un ha
theorem jF{P:Program}{w:World}{r o:Nat}{us:List Value}(h:∀(i:Nat) v,us[i]? =M v->w.cell? ⟨r,o+i,b_⟩=M v):
  (loadCells ⟨r,o,b_⟩ us.length).run P w= .ok us.toArray w:=by
 have key:∀(n i:Nat)(acc:Array Value),i+n=us.length->(loadCellsFrom ⟨r,o,b_⟩ i n acc).run P w= .ok (acc++(us.drop i).toArray) w:=by
  intro n
  induction n with
  |zero=>
   intro i acc hi
   have:us.drop i=[]:=by simp;omega
   simp[loadCellsFrom,this]
  |succ n b=>
   intro i acc hi
   have a:i<us.length:=O
   have c:=h i us[i] (mo a)
   simp only[loadCellsFrom,Sem.run_bind,run_load,addr_add,c,Result.andThen_ok]
   rw[b (i+1) _ O,List.drop_eq_getElem_cons a]
   simp
 have:=key us.length 0 #[] zA
 simpa [loadCells]using this
def TypeDesc.agg:TypeDesc->Bool
 | .struct _| .array _ _=>true
 |_=>false
theorem ba.Ok.pb{I:ba}{P}(hI:I.Ok P)(w){t d}(h:I.dI t=M d):(isAgg t).run P w= .ok (TypeDesc.agg d) w:=by
 simp only[isAgg,Sem.run_bind,hI.aW w h,Result.andThen_ok]
 cases d<;>rfl
theorem qR.cell{c ρ H w}(a:Rel c ρ H w){b o vs}(h:qR ρ b o vs)(i)(v)(d:vs[i]? =M v):w.cell? ⟨b,o+i,b_⟩=M v:=by
 obtain⟨_,pre,rest,l,f⟩:=h
 obtain⟨el,fr,j⟩:=a.qY _ _ f
 have hi:=(List.getElem?_eq_some_iff.1 d).1
 simp only[World.cell?,j,Option.isSome_none,kH,if_false,List.getElem?_toArray]
 grind
theorem aU.flat{ρ f a}:∀{n},(∀i,i<n->aU ρ (f i) (a i))->aU ρ (rowsOf n f) ((z n).flatMap a)
 |0,_=>by simp[rowsOf,aU]
 |n+1,h=>by
  rw[dl,h_,f_]
  exact aU.append (aU.flat λi hi=>h i O) Y
def Pf(H:AH):AV->Option (eT×Nat×Nat×Nat)
 | .ptr l k e j=>M (H.get l,k,e,j)
 | .fc cs j=>M (.cells cs .ro,0,0,j)
 |_=>b_
theorem Ll{H p dF k e j}(h:Pf H p=M (dF,k,e,j)){c ρ w r}(f:VR ρ p r)(s:Rel c ρ H w):
  ∃b o,r= .pointer (M ⟨b,o,b_⟩)/\∀n g,dF.at k e j n=M (true,g)->∃us,aU ρ g us/\us.length=n/\∀(i) v,us[i]? =M v->w.cell? ⟨b,o+i,b_⟩=M v:=by
 unfold Pf at h
 split at h
 ·rename_i l _ _ _
  simp only[fE,Prod.mk.injEq]at h
  obtain⟨rfl,rfl,rfl,rfl⟩:=h
  simp only[VR]at f
  obtain⟨b,N,y,rfl⟩:=f
  have d:=s.dF l
  rw[y]at d
  refine⟨b,_,rfl,λn g a=>?_⟩
  obtain⟨us,t,m,_,B⟩:=eT.F6 d a
  grind
 ·rename_i cs u
  simp only[fE,Prod.mk.injEq]at h
  obtain⟨rfl,rfl,rfl,rfl⟩:=h
  simp only[VR]at f
  obtain⟨b,o,vs,rfl,t,m⟩:=f
  refine⟨b,_,rfl,λn g a=>?_⟩
  simp only[eT.at,eT.un,eT.F5,fE,Prod.mk.injEq,bn,Nat.zero_mul,Nat.zero_add]at a
  obtain⟨C,rfl⟩:=a
  have x:=m.length_eq
  refine⟨(vs.drop u).take n,((aU.ext (Ext.qU ρ) _ _ m).drop u).take n,by simp;omega,λi v q=>?_⟩
  have hi:i<n:=by
   have:=(List.getElem?_eq_some_iff.1 q).1
   simp at this;omega
  rw[l_ hi,o_]at q
  have:=qR.cell s t _ _ q
  grind
 ·cases h
def F7:List AV->Bool
 |[]=>true
 | .int w_ _::cs=>F7 cs
 |_=>false
def Wt:List AV->Nat->Int
 |[],_=>0
 | .int _ i::_,0=>i
 |_::_,0=>0
 |_::cs,n+1=>Wt cs n
theorem ve:∀(cs)(n),F7 cs=true->n<cs.length->(cs.drop n).take 1=[.int w_ (Wt cs n)]
 |[],n,_,h=>Y
 | .int w_ i::cs,0,_,_=>rfl
 | .int w_ i::cs,n+1,h,hn=>ve cs n h Y
def DJ(b:eT)(e:Nat):Option (List AV):=match e with
 |1=>match b with
  | .cells cs _=>bif a_ cs.length 16&&F7 cs then M cs else b_
  |_=>b_
 |_=>b_
theorem HF{b k e j cs}(h:DJ b e=M cs)(hn:k*e+j<cs.length):b.at k e j 1=M (true,[.int w_ (Wt cs (k*e+j))]):=by
 unfold DJ at h
 split at h
 ·split at h
  ·rename_i c a
   cases d:(a_ c.length 16&&F7 c)with
   |false=>rw[d]at h;cases h
   |true=>
    rw[d]at h
    cases h
    rw[bf]at d
    show M (g_ (k*1+j+1<=cs.length),(cs.drop (k*1+j)).take 1)=_
    rw[ve cs _ d.2 hn,bW O]
  ·cases h
 ·cases h
def yf{R:Type}(X:RI R)(I:ba)(t:TypeId)(H:AH)(p:AV)(K:AV->R):R :=
 match Pf H p,I.dI t with
 |some (dF,k,e,j),M d=>
  match TypeDesc.agg d with
  |true=>match I.size t with
   |some n=>match dF.at k e j n with
    |some (ok,xs)=>X.bq ok (K (.agg xs))
    |none=>X.fail
   |none=>X.fail
  |false=>match DJ dF e with
   |some cs=>X.bq (g_ (k*e+j<cs.length)) (K (.int w_ (Wt cs (k*e+j))))
   |none=>match dF.at k e j 1 with
    |some (ok,[x])=>X.bq ok (K x)
    |_=>X.fail
 |_,_=>X.fail
theorem vf{R X}{sem:R->Prop}(hX:X.Ok sem){I P}(hI:I.Ok P){t H p K}(h:sem (yf X I t H p K)):
  ∃a,sem (K a)/\∀(c) ρ w B,VR ρ p B->Rel c ρ H w->∃v,(Instr.loadAt t B).run P w= .ok v w/\VR ρ a v:=by
 unfold yf at h
 split at h
 ·rename_i dF k e j d l E
  split at h
  ·rename_i g
   split at h
   ·rename_i n hn
    split at h
    ·rename_i ok G i
     obtain⟨m,C⟩:=hX.bq _ _ h
     subst m
     refine⟨_,C,λc ρ w B q D=>?_⟩
     obtain⟨b,o,rfl,f⟩:=Ll l q D
     obtain⟨us,r,s,y⟩:=f _ _ i
     refine⟨.agg us.toArray,?_,by simp only[VR];grind⟩
     simp only[Instr.loadAt,Instr.sureAddr,loadVar,Sem.run_bind,Sem.run_pure,Result.andThen_ok,hI.pb w E,g,if_true,hI.ca w hn]
     rw[<-s,jF y]
     simp
    ·exact zR
   ·exact zR
  ·rename_i g
   have key:∃x,sem (K x)/\dF.at k e j 1=M (true,[x]):=by
    split at h
    ·rename_i cs q
     obtain⟨r,s⟩:=hX.bq _ _ h
     exact⟨_,s,HF q Y⟩
    ·split at h
     ·rename_i ok x i
      obtain⟨m,C⟩:=hX.bq _ _ h
      grind
     ·exact zR
   obtain⟨x,C,i⟩:=key
   refine⟨_,C,λc ρ w B q D=>?_⟩
   obtain⟨b,o,rfl,f⟩:=Ll l q D
   obtain⟨us,r,s,y⟩:=f _ _ i
   match us,s,r,y with
   |[u],_,r,y=>
    have F:=y 0 u A
    refine⟨u,?_,(aU.aL.1 r).1⟩
    simp only[Nat.add_zero]at F
    simp[Instr.loadAt,Instr.sureAddr,loadVar,hI.pb w E,g,F]
 ·exact zR
end
section
structure mu (w w':World):Prop where
 size:w.heap.size<=w'.heap.size
 same:∀k,k<w.heap.size->w'.heap[k]? =w.heap[k]?
theorem mu.refl(w):mu w w:=⟨dw _,λ_ _=>rfl⟩
theorem mu.trans{a b c}(h:mu a b)(k:mu b c):mu a c:=⟨Nat.le_trans h.size k.size,λi hi=>(k.same i (Nat.lt_of_lt_of_le hi h.size)).trans (h.same i hi)⟩
theorem mu.push(w)(o):mu w {w with heap:=w.heap.push o}:=⟨zA,λ_ a=>iz a⟩
def fx(P:Program)(s:Sem Value)(c:fw)(ρ:Env)(w:World)(a:AV)(H':AH):Prop :=
 ∃b w' ρ',s.run P w= .ok b w'/\Ext ρ ρ'/\Rel c ρ' H' w'/\VR ρ' a b/\mu w w'
section
variable {P:Program} {c:fw} {ρ:Env} {w:World} {H:AH}
theorem fx.same{s v a}(b:s.run P w= .ok v w)(d:Rel c ρ H w)(ha:VR ρ a v):fx P s c ρ w a H :=
 ⟨v,w,ρ,b,Ext.refl ρ,d,ha,mu.refl w⟩
theorem fx.row{s vs cs el}{mk:Addr->Value}{a}(f:Rel c ρ H w)(i:aU ρ cs vs)(j:cs.all AV.one=true)
  (l:s.run P w= .ok (mk ⟨w.heap.size,0,b_⟩) {w with heap:=w.heap.push (.cells vs.toArray el)})
  (ha:∀ρ',ρ' H.n=M (w.heap.size,vs.length)->VR ρ' a (mk ⟨w.heap.size,0,b_⟩)):fx P s c ρ w a (H.new (.cells cs (.ty el))):=by
 obtain⟨hx,b⟩:=f.new (.cells vs.toArray el) vs.length (.cells cs (.ty el)) λw' d=>by
  refine .inr ⟨_,_,vs,[],el,(0,0),rfl,?_,zA,aU.ext (Env.nk _ (f.top _ (dw _))) _ _ i,⟨O,zA,λ_ h=>zE⟩,aU.Kl i j,λe=>zG⟩
  simpa using d
 exact⟨_,_,_,l,hx,b,ha _ (Env.cP _ _ _),mu.push _ _⟩
end
def xF(n b:Int):Bool:=match n with
 | .ofNat a=>(match b with| .ofNat c=>r_ a c| .negSucc _=>false)
 | .negSucc a=>(match b with| .ofNat _=>true| .negSucc c=>r_ c a)
theorem iH{n b}:xF n b=true↔n<=b:=by
 cases n with
 |ofNat a=>cases b with
  |ofNat c=>simp only[xF,x_,i_];omega
  |negSucc c=>simp only[xF,i_,k_,kH,false_iff];omega
 |negSucc a=>cases b with
  |ofNat c=>simp only[xF,i_,k_,true_iff];omega
  |negSucc c=>simp only[xF,x_,k_];omega
theorem Km(n b):xF n b=g_ (n<=b):=by
 cases h:xF n b with
 |true=>exact(bW (iH.1 h)).symm
 |false=>exact(nZ λe=>by rw[iH.2 e]at h;cases h).symm
def aN(k:IntKind)(n:Int):Bool:=xF k.min n&&xF n k.max
theorem Kn{k n}(h:aN k n=true):k.wrap n=n:=by
 simp only[aN,bf,iH]at h
 obtain⟨a,b⟩:=h
 unfold z_
 cases k<;>simp only[A_,v_,p_,t_,kH,if_true,if_false,Bool.true_and,Bool.false_and]at a b⊢ <;>(try split)<;>simp at* <;>omega
def fits(wr:Bool)(k:IntKind)(n:Int):Bool×Int :=
 bif wr || !k.signed then(true,k.wrap n)else(aN k n,n)
theorem nq{wr k n m}(h:fits wr k n=(true,m)):k.wrap n=m:=by
 unfold fits at h
 cases a:(wr || !k.signed)<;>rw[a]at h<;>simp only[cond_true,cond_false,Prod.mk.injEq,true_and]at h
 ·rw[Kn h.1];exact h.2
 ·exact h
def bitsOf(op:BinOp)(k:IntKind)(x y:Int):Int :=
 k.wrap (match op with
  | .and=>d_ k.bits x &&& d_ k.bits y
  | .or=>d_ k.bits x ||| d_ k.bits y
  | .xor=>d_ k.bits x^^^d_ k.bits y
  |_=>d_ k.bits x &&& ~~~d_ k.bits y:BitVec k.bits).toNat
def Ko{R:Type}(X:RI R)(wr:Bool)(op:BinOp)(k:IntKind)(x y:Int)(K:AV->R):R :=
 match op with
 | .add=>X.bq (fits wr k (x+y)).1 (K (.int k (fits wr k (x+y)).2))
 | .sub=>X.bq (fits wr k (x-y)).1 (K (.int k (fits wr k (x-y)).2))
 | .mul=>X.bq (fits wr k (x*y)).1 (K (.int k (fits wr k (x*y)).2))
 | .quo=>X.bq (!(y==0)&&(fits wr k (x.tdiv y)).1) (K (.int k (fits wr k (x.tdiv y)).2))
 | .rem=>X.bq (!(y==0)) (K (.int k (x.tmod y)))
 | .and| .or| .xor| .andNot=>K (.int k (bitsOf op k x y))
 | .eql=>K (.bool (x==y))
 | .neq=>K (.bool (x !=y))
 | .lss=>K (.bool (g_ (x<y)))
 | .leq=>K (.bool (g_ (x<=y)))
 | .gtr=>K (.bool (g_ (x>y)))
 | .geq=>K (.bool (g_ (x>=y)))
 |_=>X.fail
theorem Kp{R X}{sem:R->Prop}(hX:X.Ok sem)(P){wr op k x y K}(h:sem (Ko X wr op k x y K))(t):
  ∃v a,sem (K a)/\(∀ρ,VR ρ a v)/\∀w,(binOp op t (.int k x) (.int k y)).run P w= .ok v w:=by
 unfold Ko at h
 split at h
 case h_1=>
  obtain⟨b,c⟩:=hX.bq _ _ h
  have:=nq (wr:=wr) (k:=k) (n:=x+y) (m:=(fits wr k (x+y)).2) (by rw[<-b])
  exact⟨_,_,c,λρ=>by simp only[VR];rfl,λw=>by simp[binOp,Op.intArith,this]⟩
 case h_2=>
  obtain⟨b,c⟩:=hX.bq _ _ h
  have:=nq (wr:=wr) (k:=k) (n:=x-y) (m:=(fits wr k (x-y)).2) (by rw[<-b])
  exact⟨_,_,c,λρ=>by simp only[VR];rfl,λw=>by simp[binOp,Op.intArith,this]⟩
 case h_3=>
  obtain⟨b,c⟩:=hX.bq _ _ h
  have:=nq (wr:=wr) (k:=k) (n:=x*y) (m:=(fits wr k (x*y)).2) (by rw[<-b])
  exact⟨_,_,c,λρ=>by simp only[VR];rfl,λw=>by simp[binOp,Op.intArith,this]⟩
 case h_4=>
  obtain⟨b,c⟩:=hX.bq _ _ h
  simp only[bf,q_,beq_eq_false_iff_ne,ne_eq]at b
  have:=nq (wr:=wr) (k:=k) (n:=x.tdiv y) (m:=(fits wr k (x.tdiv y)).2) (by rw[<-b.2])
  exact⟨_,_,c,λρ=>by simp only[VR];rfl,λw=>by simp[binOp,Op.intDiv,this,b.1]⟩
 case h_5=>
  obtain⟨b,c⟩:=hX.bq _ _ h
  simp only[q_,beq_eq_false_iff_ne,ne_eq]at b
  exact⟨_,_,c,λρ=>by simp only[VR];rfl,λw=>by simp[binOp,Op.intDiv,b]⟩
 case h_6=>exact⟨_,_,h,λρ=>by simp only[VR];rfl,λw=>by simp[binOp,Op.intBits,bitsOf]⟩
 case h_7=>exact⟨_,_,h,λρ=>by simp only[VR];rfl,λw=>by simp[binOp,Op.intBits,bitsOf]⟩
 case h_8=>exact⟨_,_,h,λρ=>by simp only[VR];rfl,λw=>by simp[binOp,Op.intBits,bitsOf]⟩
 case h_9=>exact⟨_,_,h,λρ=>by simp only[VR];rfl,λw=>by simp[binOp,Op.intBits,bitsOf]⟩
 case h_10=>exact⟨_,_,h,λρ=>by simp only[VR];rfl,λw=>zP⟩
 case h_11=>exact⟨_,_,h,λρ=>by simp only[VR];rfl,λw=>zP⟩
 case h_12=>exact⟨_,_,h,λρ=>by simp only[VR];rfl,λw=>zP⟩
 case h_13=>exact⟨_,_,h,λρ=>by simp only[VR];rfl,λw=>zP⟩
 case h_14=>exact⟨_,_,h,λρ=>by simp only[VR];rfl,λw=>zP⟩
 case h_15=>exact⟨_,_,h,λρ=>by simp only[VR];rfl,λw=>zP⟩
 case h_16=>exact zR
def Lm{R:Type}(X:RI R)(wr:Bool)(op:BinOp)(k:IntKind)(x y:Int)(K:AV->R):R :=
 match op with
 | .shl=>X.bq (g_ (0<=y)&&(fits wr k (x*2^(min y.toNat k.bits))).1) (K (.int k (fits wr k (x*2^(min y.toNat k.bits))).2))
 | .shr=>X.bq (g_ (0<=y)) (K (.int k (x.fdiv (2^(min y.toNat k.bits)))))
 |_=>X.fail
theorem vg{R X}{sem:R->Prop}(hX:X.Ok sem)(P){wr op k d x y K}(h:sem (Lm X wr op k x y K))(t):
  ∃v a,sem (K a)/\(∀ρ,VR ρ a v)/\∀w,(binOp op t (.int k x) (.int d y)).run P w= .ok v w:=by
 unfold Lm at h
 split at h
 ·obtain⟨b,c⟩:=hX.bq _ _ h
  simp only[bf,bn]at b
  have:=nq (wr:=wr) (k:=k) (n:=x*2^(min y.toNat k.bits)) (m:=(fits wr k (x*2^(min y.toNat k.bits))).2) (by rw[<-b.2])
  exact⟨_,_,c,λρ=>by simp only[VR];rfl,λw=>by simp[binOp,Op.shift,this,show¬ y<0 by omega]⟩
 ·obtain⟨b,c⟩:=hX.bq _ _ h
  simp only[bn]at b
  exact⟨_,_,c,λρ=>by simp only[VR];rfl,λw=>by simp[binOp,Op.shift,show¬ y<0 by omega]⟩
 ·exact zR
def qk(a b:List UInt8):List UInt8:=a++b
def Kq{R:Type}(X:RI R)(op:BinOp)(x y:List UInt8)(K:AV->R):R :=
 match op with
 | .add=>X.bq (g_ (x.length+y.length<=9223372036854775807)) (K (.str (qk x y)))
 | .eql=>K (.bool (x==y))
 | .neq=>K (.bool (!(x==y)))
 | .lss=>K (.bool (Op.bytesLess x y))
 | .leq=>K (.bool (Op.bytesLess x y||x==y))
 | .gtr=>K (.bool (!(Op.bytesLess x y||x==y)))
 | .geq=>K (.bool (!Op.bytesLess x y))
 |_=>X.fail
theorem Kr{R X}{sem:R->Prop}(hX:X.Ok sem)(P){op x y K}(h:sem (Kq X op x y K))(t):
  ∃v a,sem (K a)/\(∀ρ,VR ρ a v)/\∀w,(binOp op t (.string ⟨x.toArray⟩) (.string ⟨y.toArray⟩)).run P w= .ok v w:=by
 unfold Kq at h
 split at h
 ·obtain⟨b,c⟩:=hX.bq _ _ h
  simp only[bn]at b
  refine⟨_,_,c,λρ=>by simp only[VR];rfl,λw=>?_⟩
  have e:((⟨x.toArray⟩:ByteArray)++⟨y.toArray⟩)=⟨(qk x y).toArray⟩:=by
   apply ByteArray.ext
   simp[qk]
  have d :¬ ((((⟨x.toArray⟩:ByteArray).size+(⟨y.toArray⟩:ByteArray).size:Nat):Int)>IntKind.i64.max):=by
   simp only[ByteArray.size,List.size_toArray,v_,p_,t_,if_true]
   omega
  simp only[binOp,Op.stringOp,d,if_false,e,Sem.run_pure]
 all_goals first
  |exact zR
  |exact⟨_,_,h,λρ=>by simp only[VR];rfl,λw=>by simp[binOp,Op.stringOp]⟩
end
end
end Go.Sx
