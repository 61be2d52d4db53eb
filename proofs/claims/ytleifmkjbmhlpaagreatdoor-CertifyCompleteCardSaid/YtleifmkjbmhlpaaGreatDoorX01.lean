/- The proof of a statement of the seat, part 1. -/
import Derived.OrdersIn
import Derived.Laws.Sem
import Derived.KernelRfl
import Derived.Laws.Strings
import Derived.Laws.StructEq
import Derived.Laws.Pointers
import Derived.Laws.Slices
import Derived.LaidEql
set_option linter.all false
set_option linter.defProp false
namespace Go
theorem A{α:Sort _}{a:α}:a=a:=rfl
theorem O{P:Prop}(h:P:=by omega):P:=h
theorem U{P:Prop}(h:P:=by kernel_rfl):P:=h
theorem Y{P:Prop}(h:P:=by grind):P:=h
theorem zA{P:Prop}(h:P:=by simp):P:=h
theorem zB{P:Prop}(h:P:=by simp only[VR]):P:=h
theorem zC{P:Prop}(h:P:=by decide):P:=h
theorem zD{P:Prop}(h:P:=by simpa only[VR,AV.bx]using k):P:=h
theorem zE{P:Prop}(h:P:=by cases h):P:=h
theorem zF{P:Prop}(h:P:=by simpa only[VR]using k):P:=h
theorem zG{P:Prop}(h:P:=by cases e):P:=h
theorem zH{P:Prop}(h:P:=by simp[aV]):P:=h
theorem zI{P:Prop}(h:P:=by assumption):P:=h
theorem zJ{P:Prop}(h:P:=by simp;omega):P:=h
theorem zK{P:Prop}(h:P:=by simp only[Ej,List.length_cons,List.length_nil];omega):P:=h
theorem zL{P:Prop}(h:P:=by simp[jd]at h):P:=h
theorem zM{P:Prop}(h:P:=by show _≠H.n;omega):P:=h
theorem zO{P:Prop}(h:P:=by simp only[Ej];rfl):P:=h
theorem zP{P:Prop}(h:P:=by simp[binOp,Op.intCmp]):P:=h
theorem zQ{P:Prop}(h:P:=by show((sW a m (Int.ofNat n)/m:Nat):Int)<10000;omega):P:=h
theorem zR{P:Prop}(h:P:=by exact absurd h hX.fail):P:=h
theorem zS{P:Prop}(h:P:=by repeat' (with_reducible first|exact trivial|rfl|exact aaX λ_ _=>sX _ _ _|refine aan ?_ ?_|refine aag ?_ ?_|refine aaY ?_ ?_|refine ZF ?_ ?_|refine And.intro ?_ ?_)):P:=h
theorem zT{P:Prop}(h:P:=by repeat' (with_reducible first|exact trivial|rfl|exact aaX λ_ _=>rB _ _ _|exact aaX λ_ _=>rC _ _ _|refine aan ?_ ?_|refine aag ?_ ?_|refine aaY ?_ ?_|refine ZF ?_ ?_|refine And.intro ?_ ?_)):P:=h
theorem zU{P:Prop}(h:P:=by repeat' (first|with_reducible exact trivial|with_reducible rfl|fail|with_reducible refine aan ?_ ?_|with_reducible refine aag ?_ ?_|with_reducible refine aaY ?_ ?_|with_reducible refine ZF ?_ ?_|with_reducible refine And.intro ?_ ?_)):P:=h
theorem zV{P:Prop}(h:P:=by repeat' (first|refine ZE _ _ (by first|exact hx|(rw[hx];rfl)|(rw[ha];rfl)|exact t1|exact t2|(rw[t1];rfl)|(rw[t2];rfl)|exact ai O O|omega) ?_|exact⟨hl,aan A ⟨r1,aag A (aag A (aaY A (aaY A (aaY A (aaY A (aag A (aag A f1)))))))⟩⟩|refine aaA (λh=>?_) λh=>?_|(exfalso;omega))):P:=h
theorem zW{P:Prop}(h:P:=by repeat' (first|exact this|exact bV|exact cM _ _|refine aag A ?_|refine aan A ?_|refine And.intro ?_ ?_)):P:=h
theorem zX{P:Prop}(h:P:=by repeat' (first|exact hQ|exact rows|exact gW _ _|exact cM _ _|exact dJ _ _|exact bV|exact CF _ _ _ _|with_reducible rfl|refine aag A ?_|refine aan k1 ?_|refine aan k2 ?_|refine aan A ?_|refine aaY A ?_|refine And.intro ?_ ?_)):P:=h
theorem zY{P:Prop}(h:P:=by repeat' (first|exact hQ|exact rows|exact gW _ _|exact cM _ _|exact dJ _ _|exact bV|exact CF _ _ _ _|with_reducible rfl|refine aag A ?_|refine aan k1 ?_|refine aan k2 ?_|refine aan A ?_|refine aaY A ?_|refine aaY hA.1.symm ?_|refine aaY hA.2.symm ?_|refine And.intro ?_ ?_)):P:=h
theorem zZ{P:Prop}(h:P:=by repeat' (with_reducible first|refine aag A ?_|refine aan A ?_|refine aaY A ?_|refine And.intro ?_ ?_|exact gW _ _|exact cM _ _|exact dJ _ _|exact bV|exact CF _ _ _ _|exact lp|exact lp2|exact hQ|refine aan z1 ?_|refine aan z2 ?_|refine ZE _ _ a1 ?_|refine ZE _ _ a2 ?_|refine ZE _ _ a4 ?_)):P:=h
theorem ZA{P:Prop}(h:P:=by repeat' (first|with_reducible refine aag A ?_|with_reducible refine aan A ?_|with_reducible refine aaY A ?_|with_reducible refine And.intro ?_ ?_|with_reducible exact gW _ _|with_reducible exact cM _ _|with_reducible exact dJ _ _|with_reducible exact bV|with_reducible exact CF _ _ _ _|with_reducible exact lp|with_reducible exact lp2|with_reducible exact hQ|with_reducible refine ZE _ _ a1 ?_|with_reducible refine ZE _ _ A ?_|refine ZE _ _ A ?_)):P:=h
theorem ZB{P:Prop}(h:P:=by repeat' (with_reducible first|refine aag A ?_|refine aan A ?_|refine aaY A ?_|refine And.intro ?_ ?_|exact gW _ _|exact cM _ _|exact dJ _ _|exact ln _ _ _ _|exact hQ|refine aag k1 ?_)):P:=h
theorem ZC{P:Prop}(h:P:=by repeat' (first|exact hQ|exact gW _ _|exact cM _ _|exact dJ _ _|exact bV|with_reducible rfl|refine aag A ?_|refine aan k1 ?_|refine aan A ?_|refine aaY A ?_|refine And.intro ?_ ?_)):P:=h
end Go
set_option maxRecDepth 1000000
namespace Go.Sx
open Go
open Option renaming some->M,none->b_,map_eq_some_iff->e_
open List renaming range->z,flatMap_append->f_,range_succ->h_,length_append->j_,getElem?_take_of_lt->l_,getElem?_drop->o_,map_append->s_,replicate->u_
open Nat renaming beq->a_,succ_mul->m_,mul_le_mul_right->n_,ble->r_,ble_eq->x_
open Bool renaming eq_false_iff->c_,not_eq_true'->q_
open BitVec renaming ofInt->d_
open Decidable renaming decide->g_
open Int renaming ofNat_eq_natCast->i_,negSucc_eq->k_
open Go.IntKind renaming signed->p_,bits->t_,max->v_,i64->w_,wrap->z_,min->A_
noncomputable section
section
theorem ba(a b:Bool):((a&&b)=true)=(a=true/\b=true):=Bool.and_eq_true a b
theorem bl{p:Prop}[Decidable p]:(decide p=true)=p:=decide_eq_true_eq
theorem bK{p:Prop}[Decidable p](h:p):decide p=true:=decide_eq_true h
theorem nJ{p:Prop}[Decidable p](h :¬ p):decide p=false:=decide_eq_false h
theorem py{p:Prop}[Decidable p](h:decide p=true):p:=of_decide_eq_true h
theorem dV{n m:Nat}(h:a_ n m=true):n=m:=Nat.eq_of_beq_eq_true h
theorem fT{n m:Nat}(h:r_ n m=true):n<=m:=Nat.le_of_ble_eq_true h
theorem il{n m:Nat}(h:n<=m):r_ n m=true:=Nat.ble_eq_true_of_le h
theorem dP(n:Nat):n<=n:=Nat.le_refl n
theorem gO{α:Type}(a b:α):(M a=M b)=(a=b):=Option.some.injEq a b
theorem je{p:Prop}[Decidable p]:(decide p=false)↔ ¬ p:=decide_eq_false_iff_not
theorem oa{α:Type}{l:List α}{i:Nat}(h:i<l.length):l[i]? =M l[i]:=List.getElem?_eq_getElem h
theorem zqm{x y:Bool}:(x&&y)=true↔x=true/\y=true:=Bool.and_eq_true_iff
theorem lu:(false=true)=False:=Bool.false_eq_true
theorem qx(n:Nat):¬ n<0:=Nat.not_lt_zero n
theorem Pa(n:Nat):¬ n<n:=Nat.lt_irrefl n
theorem qy(n:Nat):a_ n n=true:=Nat.beq_refl n
inductive AV where
 |bool (b:Bool)
 |int (k:IntKind) (n:Int)
 |str (s:List UInt8)
 |ptr (l k e a:Nat)
 |nilPtr
 |slice (l base k len:Nat) (cap:Option Nat) (e:Nat)
 |aD
 |own (l len e:Nat)
 |map (l:Option Nat)
 |fn (f:Nat) (first caps:List AV)
 |yield (l:Nat)
 |jm
 |nilIface
 |iface (c:TypeId) (g:AV)
 |agg (cs:List AV)
 |bM (cs:List AV)
 |any
 |bW (cs:List AV) (a:Nat)
 |ae (len e:Nat) (f:Nat->List AV)
 |addr (b a:Nat)
 deriving Inhabited
structure Env where
 pl:Nat->Option (Nat×Nat)
 fz:Nat->Option (List Value)
instance:CoeFun Env (λ_=>Nat->Option (Nat×Nat)):=⟨Env.pl⟩
def Env.bare(ρ:Env):Env:=⟨λ_=>b_,ρ.fz⟩
def Env.gX(σ:Nat->Nat)(ρ:Env):Env:=⟨λl=>ρ (σ l),ρ.fz⟩
def tI(ρ:Env)(b o:Nat)(vs:List Value):Prop :=
 (∀v∈vs,v.oneCell'=true)/\∃pre rest,pre.length=o/\ρ.fz b=M (pre++vs++rest)
mutual
def VR(ρ:Env):AV->Value->Prop
 | .bool b,v=>v= .bool b
 | .int k n,v=>v= .int k n
 | .str s,v=>v= .string ⟨s.toArray⟩
 | .nilPtr,v=>v= .pointer b_
 | .ptr l k e j,v=> ∃b N,ρ l=M (b,N)/\v= .pointer (M ⟨b,k*e+j,b_⟩)
 | .slice l base k len cap e,v=> ∃b N c a,ρ l=M (b,N)/\v= .slice (M a) len c/\len<=c/\(0<c->a=⟨b,base+k*e,b_⟩/\base+k*e+c*e<=N)/\∀h,cap=M h->c=h
 | .aD,v=>v= .slice b_ 0 0
 | .own l len e,v=>(len=0/\v= .slice b_ 0 0)∨∃b N c,ρ l=M (b,N)/\v= .slice (M ⟨b,0,b_⟩) len c/\len<=c/\c*e<=N
 | .map b_,v=>v= .map b_
 | .map (M l),v=> ∃b N,ρ l=M (b,N)/\v= .map (M b)
 | .fn f first g,v=> ∃us vs:List Value,v= .func (.func f) us.toArray vs.toArray/\aV ρ first us/\aV ρ g vs
 | .yield l,v=> ∃b N,ρ l=M (b,N)/\v= .func (.yield b) #[] #[]
 | .jm,v=>v= .nilFunc
 | .nilIface,v=>v= .nilIface
 | .iface t a,v=> ∃u,v= .iface t u/\VR ρ a u
 | .agg cs,v=> ∃vs:List Value,v= .agg vs.toArray/\aV ρ cs vs
 | .bM cs,v=> ∃vs:List Value,v= .tuple vs.toArray/\aV ρ cs vs
 | .any,_=>True
 | .addr b j,v=>v= .pointer (M ⟨b,j,b_⟩)
 | .bW cs j,v=> ∃b o vs,v= .pointer (M ⟨b,o+j,b_⟩)/\tI ρ b o vs/\aV ρ.bare cs vs
 | .ae len e f,v=>(len=0/\v= .slice b_ 0 0)∨∃b o c a d,v= .slice (M a) len c/\len<=c/\(0<len->a=⟨b,o,b_⟩/\tI ρ b o ((z len).flatMap d)/\∀i,i<len->(d i).length=e/\aV ρ.bare (f i) (d i))
def aV(ρ:Env):List AV->List Value->Prop
 |[],vs=>vs=[]
 |a::as,vs=> ∃u us,vs=u::us/\VR ρ a u/\aV ρ as us
end
structure Ext (ρ ρ':Env):Prop where
 T4:∀l x,ρ l=M x->ρ' l=M x
 fz:∀b vs,ρ.fz b=M vs->ρ'.fz b=M vs
instance {ρ ρ':Env}:CoeFun (Ext ρ ρ') (λ_=> ∀l x,ρ l=M x->ρ' l=M x):=⟨Ext.T4⟩
theorem Ext.refl(ρ):Ext ρ ρ:=⟨λ_ _ h=>h,λ_ _ h=>h⟩
theorem Ext.trans{a b c}(h:Ext a b)(k:Ext b c):Ext a c:=⟨λl x e=>k l x (h l x e),λl x e=>k.fz l x (h.fz l x e)⟩
theorem Ext.bare{a b}(h:Ext a b):Ext a.bare b.bare:=⟨λ_ _ e=>zG,h.fz⟩
theorem Ext.rD(a):Ext a.bare a:=⟨λ_ _ e=>zG,λ_ _ e=>e⟩
theorem tI.mono{ρ ρ'}(h:∀b vs,ρ.fz b=M vs->ρ'.fz b=M vs){b o vs}(k:tI ρ b o vs):tI ρ' b o vs:=by
 obtain⟨k1,pre,rest,k2,a⟩:=k;exact⟨k1,pre,rest,k2,h _ _ a⟩
theorem Pb{e n}{a:Nat->List Value}(h:∀i,i<n->(a i).length=e):((z n).flatMap a).length=n*e:=by
 induction n with
 |zero=>simp
 |succ n b=>rw[h_,f_,j_,b (λi hi=>h i O),m_];simp[h n O]
theorem range_split{n a}(k:a<=n):z n=z a++(z (n-a)).map (a+ ·):=by
 have:n=a+(n-a):=O
 conv=>lhs;rw[this,List.range_add]
theorem tI.part{ρ:Env}{b o n k m e:Nat}{a:Nat->List Value}(h:tI ρ b o ((z n).flatMap a))(c:∀i,i<n->(a i).length=e)(l:k+m<=n):tI ρ b (o+k*e) ((z m).flatMap λi=>a (k+i)):=by
 obtain⟨d,pre,rest,h3,f⟩:=h;have j:(z n).flatMap a=(z k).flatMap a++((z m).flatMap (λi=>a (k+i))++(z (n-(k+m))).flatMap (λi=>a (k+m+i))):=by rw[range_split (O:k<=n),f_,range_split (O:m<=n-k),s_,f_];have:n-k-m=n-(k+m):=O;simp[List.flatMap_map,this,Nat.add_assoc]
 rw[j]at d f;refine⟨by simp_all,pre++(z k).flatMap a,(z (n-(k+m))).flatMap (λi=>a (k+m+i))++rest,by rw[j_,h3,Pb λi hi=>c i O],?_⟩
 grind
theorem tI.row{ρ b o n k e a}(h:tI ρ b o ((z n).flatMap a))(c:∀i,i<n->(a i).length=e)(d:k<n):tI ρ b (o+k*e) (a k):=by
 simpa using h.part c (m:=1) (k:=k) O
mutual
theorem VR.ext{ρ ρ':Env}(h:Ext ρ ρ'):∀(a:AV)(v:Value),VR ρ a v->VR ρ' a v
 | .bool _,_,k=>zF
 | .int _ _,_,k=>zF
 | .str _,_,k=>zF
 | .nilPtr,_,k=>zF
 | .ptr l _ _ _,v,k=>by simp only[VR]at k⊢;obtain⟨b,N,e,r⟩:=k;exact⟨b,N,h _ _ e,r⟩
 | .slice l _ _ _ _ _,v,k=>by simp only[VR]at k⊢;obtain⟨b,N,c,a,e,r⟩:=k;exact⟨b,N,c,a,h _ _ e,r⟩
 | .aD,_,k=>zF
 | .own l len e,v,k=>by
  simp only[VR]at k⊢;rcases k with k|⟨b,N,c,e,r⟩
  ·exact .inl k
  ·exact .inr ⟨b,N,c,h _ _ e,r⟩
 | .map b_,_,k=>zF
 | .map (M l),v,k=>by simp only[VR]at k⊢;obtain⟨b,N,e,r⟩:=k;exact⟨b,N,h _ _ e,r⟩
 | .fn f first d,v,k=>by simp only[VR]at k⊢;obtain⟨us,vs,e,r,s⟩:=k;exact⟨us,vs,e,aV.ext h first us r,aV.ext h d vs s⟩
 | .yield l,v,k=>by simp only[VR]at k⊢;obtain⟨b,N,e,r⟩:=k;exact⟨b,N,h _ _ e,r⟩
 | .jm,_,k=>zF
 | .nilIface,_,k=>zF
 | .iface t a,v,k=>by simp only[VR]at k⊢;obtain⟨u,e,r⟩:=k;exact⟨u,e,VR.ext h a u r⟩
 | .agg cs,v,k=>by simp only[VR]at k⊢;obtain⟨vs,e,r⟩:=k;exact⟨vs,e,aV.ext h cs vs r⟩
 | .bM cs,v,k=>by simp only[VR]at k⊢;obtain⟨vs,e,r⟩:=k;exact⟨vs,e,aV.ext h cs vs r⟩
 | .any,_,_=>zB
 | .addr _ _,_,k=>zF
 | .bW cs j,v,hk=>by simp only[VR]at hk⊢;obtain⟨b,o,vs,q,w,h3⟩:=hk;exact⟨b,o,vs,q,w.mono h.fz,aV.ext h.bare cs vs h3⟩
 | .ae len e f,v,hk=>by
  simp only[VR]at hk⊢;rcases hk with hk|⟨b,o,c,a,m,q,w,h3⟩
  ·exact .inl hk
  ·exact .inr ⟨b,o,c,a,m,q,w,λhl=>⟨(h3 hl).1,(h3 hl).2.1.mono h.fz,λi hi=>⟨((h3 hl).2.2 i hi).1,aV.ext h.bare (f i) (m i) ((h3 hl).2.2 i hi).2⟩⟩⟩
theorem aV.ext{ρ ρ':Env}(h:Ext ρ ρ'):∀(as:List AV)(vs:List Value),aV ρ as vs->aV ρ' as vs
 |[],_,k=>by simpa only[aV]using k
 |a::as,vs,k=>by simp only[aV]at k⊢;obtain⟨u,us,e,r,s⟩:=k;exact⟨u,us,e,VR.ext h a u r,aV.ext h as us s⟩
end
section
variable {ρ:Env}
theorem aV.aM{a as u us}:aV ρ (a::as) (u::us)↔VR ρ a u/\aV ρ as us:=by
 simp only[aV]
 grind
theorem aV.length_eq:∀{as vs},aV ρ as vs->as.length=vs.length
 |[],vs,h=>by simp only[aV]at h;simp[h]
 |a::as,vs,h=>by simp only[aV]at h;obtain⟨u,us,rfl,_,s⟩:=h;simp[aV.length_eq s]
theorem aV.get:∀{as vs}(_:aV ρ as vs)(i:Nat){a},as[i]? =M a->∃v,vs[i]? =M v/\VR ρ a v
 |[],_,_,i,a,e=>by simp at e
 |x::as,vs,h,i,a,e=>by
  simp only[aV]at h;obtain⟨u,us,rfl,r,s⟩:=h;cases i with
  |zero=>grind
  |succ i=>simp at e;simpa using aV.get s i e
theorem aV.append:∀{as b us vs},aV ρ as us->aV ρ b vs->aV ρ (as++b) (us++vs)
 |[],b,us,vs,h,k=>by simp only[aV]at h;grind
 |a::as,b,us,vs,h,k=>by simp only[aV]at h;obtain⟨u,c,rfl,r,s⟩:=h;exact aV.aM.2 ⟨r,aV.append s k⟩
theorem aV.take:∀{as vs}(n),aV ρ as vs->aV ρ (as.take n) (vs.take n)
 |as,vs,0,_=>zH
 |[],vs,n+1,h=>by simp only[aV]at h;subst h;simp[aV]
 |a::as,vs,n+1,h=>by simp only[aV]at h;obtain⟨u,b,rfl,r,s⟩:=h;exact aV.aM.2 ⟨r,aV.take n s⟩
theorem aV.drop:∀{as vs}(n),aV ρ as vs->aV ρ (as.drop n) (vs.drop n)
 |as,vs,0,h=>by simpa using h
 |[],vs,n+1,h=>by simp only[aV]at h;subst h;simp[aV]
 |a::as,vs,n+1,h=>by simp only[aV]at h;obtain⟨u,b,rfl,r,s⟩:=h;simpa using aV.drop n s
theorem aV.set:∀{as vs}(i){a v},aV ρ as vs->VR ρ a v->aV ρ (as.set i a) (vs.set i v)
 |[],vs,i,_,_,h,_=>by simp only[aV]at h;subst h;simp[aV]
 |x::as,vs,i,a,v,h,k=>by
  simp only[aV]at h;obtain⟨u,b,rfl,r,s⟩:=h;cases i with
  |zero=>exact aV.aM.2 ⟨k,s⟩
  |succ i=>exact aV.aM.2 ⟨r,aV.set i s k⟩
theorem aV.replicate{a v}(h:VR ρ a v):∀n,aV ρ (u_ n a) (u_ n v)
 |0=>zH
 |n+1=>aV.aM.2 ⟨h,aV.replicate h n⟩
end
inductive Tr (α:Type) where
 |e
 |n (l:Tr α) (a:Option α) (r:Tr α)
def Tr.get{α:Type}:Tr α->Nat->Option α
 | .e,_=>b_
 | .n l v r,i=>bif a_ i 0 then v else bif a_ (i%2) 1 then l.get (i/2)else r.get (i/2-1)
def Tr.CG{α:Type}(x:α):Nat->Tr α->Nat->Tr α
 |0,t,_=>t
 |f+1,.e,i=>bif a_ i 0 then .n .e (M x) .e else bif a_ (i%2) 1 then .n (Tr.CG x f .e (i/2)) b_ .e else .n .e b_ (Tr.CG x f .e (i/2-1))
 |f+1,.n l v r,i=>bif a_ i 0 then .n l (M x) r else bif a_ (i%2) 1 then .n (Tr.CG x f l (i/2)) v r else .n l v (Tr.CG x f r (i/2-1))
def Tr.set{α:Type}(t:Tr α)(i:Nat)(x:α):Tr α:=Tr.CG x (i+1) t i
theorem Tr.nK{α}(i):(Tr.e:Tr α).get i=b_:=rfl
theorem Tr.xF{α}(x):∀(f)(t:Tr α)(i j),i<f->(Tr.CG x f t i).get j=if j=i then M x else t.get j
 |0,_,_,_,h=>O
 |f+1,t,i,j,h=>by
  have key:∀(l r:Tr α)(v:Option α),((bif a_ i 0 then .n l (M x) r else bif a_ (i%2) 1 then .n (Tr.CG x f l (i/2)) v r else .n l v (Tr.CG x f r (i/2-1))):Tr α).get j=if j=i then M x else(Tr.n l v r).get j:=by
   intro l r v;by_cases m:i=0
   ·subst m;have o:a_ 0 0=true:=rfl;simp only[o,cond_true];by_cases d:j=0
    ·subst d;simp[Tr.get]
    ·have:a_ j 0=false:=by rw[c_];intro e;exact(by simp_all)
     simp[Tr.get,this,d]
   ·have q:a_ i 0=false:=by rw[c_];intro e;exact(by simp_all)
    rw[q,cond_false];by_cases h1:i%2=1
    ·have a:a_ (i%2) 1=true:=by rw[h1];rfl
     rw[a,cond_true];simp only[Tr.get];by_cases d:j=0
     ·subst d;have :¬ 0=i:=λe=>m e.symm
      simp[this]
     ·have b:a_ j 0=false:=by rw[c_];intro e;exact(by simp_all)
      rw[b];simp only[cond_false];by_cases c:j%2=1
      ·have:a_ (j%2) 1=true:=by rw[c];rfl
       rw[this];simp only[cond_true];rw[Tr.xF x f l (i/2) (j/2) O]
       grind
      ·have:a_ (j%2) 1=false:=by rw[c_];intro e;exact(by simp_all)
       grind
    ·have a:a_ (i%2) 1=false:=by rw[c_];intro e;exact(by simp_all)
     rw[a,cond_false];simp only[Tr.get];by_cases d:j=0
     ·subst d;have :¬ 0=i:=λe=>m e.symm
      simp[this]
     ·have b:a_ j 0=false:=by rw[c_];intro e;exact(by simp_all)
      rw[b];simp only[cond_false];by_cases c:j%2=1
      ·have:a_ (j%2) 1=true:=by rw[c];rfl
       grind
      ·have:a_ (j%2) 1=false:=by rw[c_];intro e;exact Y
       rw[this];simp only[cond_false];rw[Tr.xF x f r (i/2-1) (j/2-1) O]
       grind
  cases t with
  |e=>have:=key .e .e b_;simp only[Tr.CG,Tr.nK];rw[this];congr 1;simp[Tr.get]
  |n l v r=>exact key l r v
theorem Tr.bk{α}(t:Tr α)(i j)(x):(t.set i x).get j=if j=i then M x else t.get j:=Tr.xF x _ t i j (Nat.lt_succ_self i)
def cR(t:Tr AV)(i:Nat):AV:=match t.get i with|some a=>a|none=> .any
def w5(ρ:Env)(t:Tr AV)(nt:Nat)(vs:Array Value):Prop:=vs.size=nt/\∀i,VR ρ (cR t i) (vs.getD i undef)
theorem w5.ext{ρ ρ'}(h:Ext ρ ρ'){t nt vs}(k:w5 ρ t nt vs):w5 ρ' t nt vs:=⟨k.1,λi=>VR.ext h _ _ (k.2 i)⟩
inductive Access where
 |ro|wr|ty (e:TypeId)|ex (m:Nat)
 deriving Inhabited
def Access.w:Access->Bool
 | .ro=>false
 | .ex _=>false
 |_=>true
inductive aae where
 |cells (cs:List AV) (rw:Access)
 |rows (n e:Nat) (f:Nat->List AV) (rw:Access)
 |str (s:List UInt8) (rw:Access)
 |map (es:List (AV×AV))
 |loop (r:LoopState) (pending:Option Code) (b:Tr AV) (nt:Nat) (params:List Tmp) (assign body:Code) (tL:Nat)
 |tL
 |iter (l:Nat)
 |jn (n:Nat) (K:Nat->Int)
 |gy (l since:Nat) (a:List Nat)
 |dK (n:Nat) (K:Nat->List Int) (P:Nat->AV) (foc:Option (Nat×AV))
 |dead
 deriving Inhabited
def dZ:List (AV×AV)->Bool
 |[]=>false
 |(a,_)::_=>match a with| .any=>true|_=>false
def iE:List (AV×AV)->List (AV×AV)
 |[]=>[]
 |(a,b)::es=>match a with| .any=>es|_=>(a,b)::es
theorem rE{c}(h:dZ c=false):iE c=c:=by
 cases c with
 |nil=>rfl
 |cons e c=>obtain⟨a,b⟩:=e;cases a<;>first|rfl|cases h
theorem Ha{a k v}(h:dZ a=false)(b:k≠ .any):dZ (a++[(k,v)])=false:=by
 cases a with
 |nil=>cases k<;>first|rfl|exact absurd A b
 |cons e a=>exact h
theorem Hb{a k v}(h:dZ a=false)(b:k≠ .any)(i):dZ (a.set i (k,v))=false:=by
 cases a with
 |nil=>rfl
 |cons e a=>
  cases i with
  |zero=>cases k<;>first|rfl|exact absurd A b
  |succ i=>exact h
def u4(a ms:List MapEntry):Prop := ∀b c i v,Instr.findNow b c a 0=M (M (i,v))->∃d,Instr.findNow b c ms 0=M (M (d,v))
def lx(ρ:Env)(b:List (AV×AV))(ms:List MapEntry):Prop :=
 ∃a,aV ρ ((iE b).map (·.1)) (a.map (·.key))/\aV ρ ((iE b).map (·.2)) (a.map (·.val))/\(dZ b=false->a=ms)/\u4 a ms
theorem lx.plain{ρ a ms}(h:dZ a=false)(k:lx ρ a ms):aV ρ (a.map (·.1)) (ms.map (·.key))/\aV ρ (a.map (·.2)) (ms.map (·.val)):=by
 obtain⟨b,c,d,h3,_⟩:=k;rw[rE h]at c d
 grind
theorem lx.mk{ρ:Env}{a:List (AV×AV)}{ms:List MapEntry}(h:dZ a=false)(b:aV ρ (a.map (·.1)) (ms.map (·.key)))(c:aV ρ (a.map (·.2)) (ms.map (·.val))):lx ρ a ms:=by
 refine⟨ms,?_,?_,λ_=>rfl,λ_ _ i _ e=>⟨i,e⟩⟩
 ·rw[rE h];exact b
 ·rw[rE h];exact c
def aae.rw:aae->Bool
 | .cells _ rw=>rw.w
 | .rows _ _ _ rw=>rw.w
 | .str _ rw=>rw.w
 | .dead=>false
 | .map es=>!dZ es
 |_=>true
structure AH where
 n:Nat
 t:Tr aae
def AH.get(H:AH)(i:Nat):aae:=match H.t.get i with|some b=>b|none=> .dead
def AH.set(H:AH)(i:Nat)(b:aae):AH:={n:=H.n,t:=H.t.set i b}
def AH.new(H:AH)(b:aae):AH:={n:=H.n+1,t:=H.t.set H.n b}
@[simp] theorem AH.new_n(H:AH)(b):(H.new b).n=H.n+1:=rfl
@[simp] theorem AH.set_n(H:AH)(i)(b):(H.set i b).n=H.n:=rfl
theorem AH.bk(H:AH)(i j)(b):(H.set i b).get j=if j=i then b else H.get j:=by
 simp only[AH.get,AH.set,Tr.bk]
 grind
theorem AH.gR(H:AH)(j)(b):(H.new b).get j=if j=H.n then b else H.get j:=by
 simp only[AH.get,AH.new,Tr.bk]
 grind
theorem AH.jY(H:AH)(b):(H.new b).get H.n=b:=by rw[AH.gR,if_pos A]
theorem AH.bz(H:AH)(b){i}(h:i≠H.n):(H.new b).get i=H.get i:=by rw[AH.gR,if_neg h]
theorem AH.aL(H:AH)(b){i j}(h:i≠j):(H.set i b).get j=H.get j:=by rw[AH.bk,if_neg (λe=>h e.symm)]
theorem AH.get_set_same(H:AH)(b)(i):(H.set i b).get i=b:=by rw[AH.bk,if_pos A]
structure sF (rw:Access) (el:TypeId) (fr:Nat×Nat) (N:Nat):Prop where
 w:rw.w=true->∀i,i<N->¬ (fr.1<=i/\i<fr.2)
 ty:∀e,rw= .ty e->el=e
 ex:∀m,rw= .ex m->N=m
def aE(ρ:Env)(w:World)(o:Option (Nat×Nat))(cs:List AV)(rw:Access):Prop :=
 (cs=[]/\o=b_)∨∃b N vs rest el a,o=M (b,N)/\w.heap[b]? =M (.cells (vs++rest).toArray el a)/\(vs++rest).length=N/\aV ρ cs vs/\sF rw el a N/\(∀v∈vs,v.oneCell'=true)/\(rw= .ro->ρ.fz b=M (vs++rest))
def rowsOf(n:Nat)(f:Nat->List AV):List AV:=(z n).flatMap f
def fu(s:List UInt8)(i:Nat):List AV:=[.int .u8 (s.getD i 0).toNat]
def byteCells(s:List UInt8):List AV:=s.map λb=> .int .u8 b.toNat
def ec(n:Nat)(K:Nat->Int):List MapEntry:=(z n).map λi=>{key:=.int w_ (K i),val:=.bool true,born:=i}
def Ek(ks:List Int):Value:=.agg (ks.map λx=>Value.int w_ x).toArray
def jZ(n:Nat)(K:Nat->List Int)(u:Nat->Value):List MapEntry:=(z n).map λi=>{key:=Ek (K i),val:=u i,born:=i}
def bn(ρ:Env)(w:World)(o:Option (Nat×Nat)):aae->Prop
 | .cells cs rw=>aE ρ w o cs rw
 | .rows n e f rw=>(∀i,i<n->(f i).length=e)/\aE ρ w o (rowsOf n f) rw
 | .str s rw=>aE ρ w o (byteCells s) rw
 | .map es=> ∃b N,∃(ms:List MapEntry)(g:Nat),o=M (b,N)/\w.heap[b]? =M (.map ms.toArray g)/\lx ρ es ms/\(es=[]->g=0)
 | .loop k p t nt q as r df=> ∃b N d c fn vs,o=M (b,N)/\ρ df=M (d,c)/\w5 ρ t nt vs/\w.heap[b]? =M (.loop {state:=k,pending:=p,fn:=fn,tmps:=vs,params:=q.toArray,assign:=as,body:=r,defers:=d})
 | .tL=> ∃b N,o=M (b,N)/\w.heap[b]? =M (.deferred (M []))
 | .iter l=> ∃b N m c since last,o=M (b,N)/\ρ l=M (m,c)/\since<=last/\w.heap[b]? =M (.mapIter (M m) since #[] last)
 | .jn n K=> ∃b N,o=M (b,N)/\w.heap[b]? =M (.map (ec n K).toArray n)
 | .gy l since S=> ∃b N m c,o=M (b,N)/\ρ l=M (m,c)/\w.heap[b]? =M (.mapIter (M m) since S.reverse.toArray since)
 | .dK n K Q h=> ∃b N,∃u:Nat->Value,o=M (b,N)/\w.heap[b]? =M (.map (jZ n K u).toArray n)/\(∀i,i<n->VR ρ (Q i) (u i))/\∀j a,h=M (j,a)->j<n/\VR ρ a (u j)
 | .dead=>True
def aae.un:aae->aae
 | .str s rw=> .rows s.length 1 (fu s) rw
 |b=>b
theorem aae.WK(b:aae):b.un.rw=b.rw:=by cases b<;>rfl
theorem lZ(s):rowsOf s.length (fu s)=byteCells s:=by
 have:∀n,n<=s.length->rowsOf n (fu s)=byteCells (s.take n):=by
  intro n
  induction n with
  |zero=>intro _;rfl
  |succ n a=>
   intro b;have:rowsOf (n+1) (fu s)=rowsOf n (fu s)++fu s n:=by simp[rowsOf,h_]
   rw[this,a O,List.take_add_one,oa O];show _=List.map _ (_++_);rw[s_];refine congr A ?_;simp[fu,List.getD_eq_getElem?_getD,oa (O:n<s.length)]
 grind
theorem bn.un{ρ w o b}(h:bn ρ w o b):bn ρ w o b.un:=by
 cases b with
 |str s rw=>exact⟨λ_ _=>rfl,by rw[lZ];exact h⟩
 |_=>exact h
structure fE where
 w0:World
 Z:Nat->Prop
 G:Nat
 X:Nat->Prop
 E:Nat->Prop
 Hc:Env
structure Rel (c:fE) (ρ:Env) (H:AH) (w:World):Prop where
 eB:∀l,bn ρ w (ρ l) (H.get l)
 sep:∀l l' r N N',l≠l'->(H.get l).rw=true->ρ l=M (r,N)->ρ l'=M (r,N')->H.get l'= .dead
 iB:∀l r N,(H.get l).rw=true->ρ l=M (r,N)->¬ c.Z r
 gY:∀k,c.Z k∨c.X k->k<c.w0.heap.size/\w.heap[k]? =c.w0.heap[k]?
 size:c.w0.heap.size<=w.heap.size
 os:w.os=c.w0.os
 output:w.output=c.w0.output
 tape:w.tape=c.w0.tape
 top:∀l,H.n<=l->ρ l=b_
 eZ:∀g,g<c.G->∃N,ρ g=M (g,N)
 hid:∀l r N,H.get l≠ .dead->ρ l=M (r,N)->¬ c.X r
 env:∀l,c.E l->l<H.n/\ρ l=c.Hc l
 low:∀l,H.n<=l->H.get l= .dead
 sY:∀b vs,ρ.fz b=M vs->∃el fr,w.heap[b]? =M (.cells vs.toArray el fr)
 sy:∀l r N,(H.get l).rw=true->ρ l=M (r,N)->ρ.fz r=b_
 tJ:∀b,c.X b->ρ.fz b=b_
 sZ:∀b vs,c.Hc.fz b=M vs->ρ.fz b=M vs
theorem Rel.below{c ρ H w}(h:Rel c ρ H w){l}(b:H.get l≠ .dead):l<H.n:=Nat.lt_of_not_le λa=>b (h.low l a)
theorem Rel.rG{c ρ H w}(h:Rel c ρ H w){l}(a:(H.get l).rw=true):l<H.n:=h.below λe=>by rw[e]at a;cases a
theorem aE.ext{ρ ρ':Env}{w:World}{o:Option (Nat×Nat)}{cs:List AV}{rw:Access}(h:Ext ρ ρ')(k:aE ρ w o cs rw):aE ρ' w o cs rw:=by
 rcases k with k|⟨b,N,vs,rest,el,c,h1,d,h3,h4,a⟩
 ·exact .inl k
 ·exact .inr ⟨b,N,vs,rest,el,c,h1,d,h3,aV.ext h _ _ h4,a.1,a.2.1,λe=>h.fz _ _ (a.2.2 e)⟩
theorem aE.world{ρ:Env}{w w':World}{o:Option (Nat×Nat)}{cs:List AV}{rw:Access}(a:∀r N,o=M (r,N)->w'.heap[r]? =w.heap[r]?)(k:aE ρ w o cs rw):aE ρ w' o cs rw:=by
 rcases k with k|⟨b,N,vs,rest,el,c,h1,d,h3⟩
 ·exact .inl k
 ·exact .inr ⟨b,N,vs,rest,el,c,h1,(a _ _ h1).trans d,h3⟩
theorem aE.lt{ρ:Env}{w:World}{r N:Nat}{cs:List AV}{rw:Access}(k:aE ρ w (M (r,N)) cs rw):r<w.heap.size:=by
 rcases k with⟨_,k⟩|⟨b,N,vs,rest,el,a,h1,c,_⟩
 all_goals grind
theorem bn.ext{ρ ρ' w o b}(h:Ext ρ ρ')(k:bn ρ w o b):bn ρ' w o b:=by
 cases b with
 |cells cs rw=>exact aE.ext h k
 |rows n e f rw=>exact⟨k.1,aE.ext h k.2⟩
 |str s rw=>exact aE.ext h k
 |map es=>obtain⟨b,N,ms,y,q,v,⟨C,h3,h4,D⟩,E⟩:=k;exact⟨b,N,ms,y,q,v,⟨C,aV.ext h _ _ h3,aV.ext h _ _ h4,D⟩,E⟩
 |loop G H t nt I as J df=>obtain⟨b,N,d,c,fn,vs,q,v,h3,h4⟩:=k;exact⟨b,N,d,c,fn,vs,q,h _ _ v,h3.ext h,h4⟩
 |tL=>exact k
 |iter l=>obtain⟨b,N,m,c,since,last,q,v,h3⟩:=k;exact⟨b,N,m,c,since,last,q,h _ _ v,h3⟩
 |jn n K=>exact k
 |gy l since S=>obtain⟨b,N,m,c,q,v,h3⟩:=k;exact⟨b,N,m,c,q,h _ _ v,h3⟩
 |dK n K Q F=>obtain⟨b,N,u,q,v,h3,h4⟩:=k;exact⟨b,N,u,q,v,λi hi=>VR.ext h _ _ (h3 i hi),λj a e=>⟨(h4 j a e).1,VR.ext h _ _ (h4 j a e).2⟩⟩
 |dead=>trivial
theorem bn.world{ρ:Env}{w w':World}{o:Option (Nat×Nat)}{b:aae}(i:∀r N,o=M (r,N)->w'.heap[r]? =w.heap[r]?)(k:bn ρ w o b):bn ρ w' o b:=by
 cases b with
 |cells cs rw=>exact aE.world i k
 |rows n e f rw=>exact⟨k.1,aE.world i k.2⟩
 |str s rw=>exact aE.world i k
 |map es=>obtain⟨b,N,ms,j,c,h,h3⟩:=k;exact⟨b,N,ms,j,c,(i _ _ c).trans h,h3⟩
 |loop v y t nt C as D df=>obtain⟨b,N,d,a,fn,vs,c,h,h3,h4⟩:=k;exact⟨b,N,d,a,fn,vs,c,h,h3,(i _ _ c).trans h4⟩
 |tL=>obtain⟨b,N,c,h⟩:=k;exact⟨b,N,c,(i _ _ c).trans h⟩
 |iter l=>obtain⟨b,N,m,a,since,last,c,h,h3,h4⟩:=k;exact⟨b,N,m,a,since,last,c,h,h3,(i _ _ c).trans h4⟩
 |jn n K=>obtain⟨b,N,c,h⟩:=k;exact⟨b,N,c,(i _ _ c).trans h⟩
 |gy l since S=>obtain⟨b,N,m,a,c,h,h3⟩:=k;exact⟨b,N,m,a,c,h,(i _ _ c).trans h3⟩
 |dK n K Q q=>obtain⟨b,N,u,c,h,h3⟩:=k;exact⟨b,N,u,c,(i _ _ c).trans h,h3⟩
 |dead=>trivial
theorem Rel.congr{c ρ H H' w}(h:Rel c ρ H w)(m:H'.n=H.n)(d:∀i,H'.get i=H.get i):Rel c ρ H' w :=
 ⟨λl=>by rw[d];exact h.eB l,λl o r N q f a b s=>by rw[d]at a⊢;exact h.sep l o r N q f a b s,λl r N a b=>by rw[d]at a;exact h.iB l r N a b,h.gY,h.size,h.os,h.output,h.tape,λl hl=>h.top l O,h.eZ,λl r N j b=>by rw[d]at j;exact h.hid l r N j b,λl hl=>by rw[m];exact h.env l hl,λl hl=>by rw[d];exact h.low l O,h.sY,λl r N a b=>by rw[d]at a;exact h.sy l r N a b,h.tJ,h.sZ⟩
theorem Rel.drawn{c ρ H w}(h:Rel c ρ H w)(n):Rel c ρ H {w with drawn:=n}:=
 ⟨λl=>bn.world (λ_ _ _=>rfl) (h.eB l),h.sep,h.iB,h.gY,h.size,h.os,h.output,h.tape,h.top,h.eZ,h.hid,h.env,h.low,h.sY,h.sy,h.tJ,h.sZ⟩
def Env.put(ρ:Env)(l:Nat)(x:Nat×Nat):Env:=⟨λi=>if i=l then M x else ρ i,ρ.fz⟩
theorem Env.Xk(ρ:Env)(l)(x):(ρ.put l x).fz=ρ.fz:=rfl
theorem Env.da(ρ:Env)(l)(x): ρ.put l x l=M x:=by simp[Env.put]
theorem Env.fe(ρ:Env){l i}(x)(h:i≠l): ρ.put l x i=ρ i:=by simp[Env.put,h]
theorem Env.pz{ρ l}(x)(h:ρ l=b_):Ext ρ (ρ.put l x):=by
 refine⟨λi y e=>?_,λ_ _ e=>e⟩;by_cases hi:i=l
 grind
 ·rw[Env.fe _ _ hi];exact e
theorem Rel.lt{c ρ H w}(h:Rel c ρ H w){l r N}(hl:H.get l≠ .dead)(j:ρ l=M (r,N)):r<w.heap.size:=by
 have:=h.eB l;have key:∀o,w.heap[r]? =M o->r<w.heap.size:=λo e=>(Array.getElem?_eq_some_iff.1 e).1
 cases i:H.get l with
 |dead=>exact absurd i hl
 |cells cs rw=>rw[i,j]at this;exact aE.lt this
 |rows n e f rw=>rw[i,j]at this;exact aE.lt this.2
 |str s rw=>rw[i,j]at this;exact aE.lt this
 |map es=>
  rw[i,j]at this;obtain⟨b,q,ms,C,v,y,_⟩:=this
  grind
 |loop E F t nt G as I df=>
  rw[i,j]at this;obtain⟨b,q,d,a,fn,vs,v,_,_,h4⟩:=this
  grind
 |tL=>
  rw[i,j]at this;obtain⟨b,q,v,y⟩:=this
  grind
 |iter l=>
  rw[i,j]at this;obtain⟨b,q,m,a,since,last,v,y,h3,h4⟩:=this
  grind
 |jn n K=>
  rw[i,j]at this;obtain⟨b,q,v,y⟩:=this
  grind
 |gy l since S=>
  rw[i,j]at this;obtain⟨b,q,m,a,v,y,h3⟩:=this
  grind
 |dK n K Q D=>
  rw[i,j]at this;obtain⟨b,q,u,v,y,h3⟩:=this
  grind
theorem jo{w:World}{o k}(h:k<w.heap.size):(w.heap.push o)[k]? =w.heap[k]? :=by
 grind
theorem Rel.new{c:fE}{ρ:Env}{H:AH}{w:World}(h:Rel c ρ H w)(o:Obj)(N:Nat)(b:aae)
  (v:∀w':World,w'.heap[w.heap.size]? =M o->bn (ρ.put H.n (w.heap.size,N)) w' (M (w.heap.size,N)) b):
  Ext ρ (ρ.put H.n (w.heap.size,N))/\Rel c (ρ.put H.n (w.heap.size,N)) (H.new b) {w with heap:=w.heap.push o}:=by
 have y:ρ H.n=b_:=h.top _ (dP _);have hx:=Env.pz (w.heap.size,N) y;refine⟨hx,⟨λl=>?_,λl s r a C q f d m=>?_,λl r a f d=>?_,λk D=>?_,?_,h.os,h.output,h.tape,λl hl=>?_,λg E=>?_,λl r a j d=>?_,λl hl=>?_,λl hl=>by rw[AH.bz _ _ (by simp at hl;omega)];exact h.low l (by simp at hl;omega),λk vs e=>?_,λl r a f d=>?_,h.tJ,h.sZ⟩⟩
 ·by_cases hl:l=H.n
  ·subst hl;rw[AH.jY,Env.da];exact v _ zA
  ·rw[AH.bz _ _ hl,Env.fe _ _ hl];by_cases j:H.get l= .dead
   ·rw[j];trivial
   ·exact bn.world (λr a e=>jo (h.lt j e)) ((h.eB l).ext hx)
 ·by_cases hl:l=H.n
  ·subst hl;rw[Env.da]at d;cases d;have i:s≠H.n:=λe=>q e.symm
   rw[Env.fe _ _ i]at m;rw[AH.bz _ _ i];apply Classical.byContradiction;intro j;have:=h.lt j m;omega
  ·rw[Env.fe _ _ hl]at d;rw[AH.bz _ _ hl]at f;have j:H.get l≠ .dead:=λe=>by rw[e]at f;cases f
   have F:=h.lt j d;by_cases i:s=H.n
   ·subst i;rw[Env.da]at m
    grind
   ·rw[Env.fe _ _ i]at m;rw[AH.bz _ _ i];exact h.sep l s r a C q f d m
 ·by_cases hl:l=H.n
  ·subst hl;rw[Env.da]at d;cases d;intro t;have:=(h.gY _ (.inl t)).1;have:=h.size;omega
  ·rw[Env.fe _ _ hl]at d;rw[AH.bz _ _ hl]at f;exact h.iB l r a f d
 ·obtain⟨d,m⟩:=h.gY k D
  grind
 ·have:=h.size;simp;omega
 ·rw[Env.fe _ _ (by simp at hl;omega)];exact h.top l (by simp at hl;omega)
 ·obtain⟨a,G⟩:=h.eZ g E;exact⟨a,hx _ _ G⟩
 ·by_cases hl:l=H.n
  ·subst hl;rw[Env.da]at d;cases d;intro t;have:=(h.gY _ (.inr t)).1;have:=h.size;omega
  ·rw[Env.fe _ _ hl]at d;rw[AH.bz _ _ hl]at j;exact h.hid l r a j d
 ·obtain⟨d,m⟩:=h.env l hl;exact⟨by simp;omega,by rw[Env.fe _ _ O];exact m⟩
 ·obtain⟨el,I,J⟩:=h.sY k vs e
  grind
 ·by_cases hl:l=H.n
  ·subst hl;rw[Env.da]at d;cases d;cases u:ρ.fz w.heap.size with
   |none=>exact u
   |some vs=>
    obtain⟨el,I,J⟩:=h.sY _ _ u
    grind
  ·rw[Env.fe _ _ hl]at d;rw[AH.bz _ _ hl]at f;exact h.sy l r a f d
theorem Rel.gX{c ρ H w w'}(h:Rel c ρ H w){l r N}(b)(f:(H.get l).rw=true)(y:ρ l=M (r,N))
  (j:∀k,k≠r->w'.heap[k]? =w.heap[k]?) (J:w'.heap.size=w.heap.size) (K:w'.os=w.os) (C:w'.output=w.output) (v:w'.tape=w.tape)
  (P:bn ρ w' (M (r,N)) b):Rel c ρ (H.set l b) w':=by
 have i:∀d,d≠l->(H.set l b).get d=H.get d:=λd e=>AH.aL _ _ (λD=>e D.symm)
 refine⟨λd=>?_,λl1 l2 r1 a L u s o E=>?_,λd t a m o=>?_,λk O=>?_,?_,K.trans h.os,C.trans h.output,v.trans h.tape,λd q=>h.top d (by simpa using q),h.eZ,λd t a F o=>?_,λd q=>by simpa using h.env d q,λd q=>by rw[i d (λe=>by subst e;have:=h.rG f;simp at q;omega)];exact h.low d (by simpa using q),λk vs e=>?_,λd t a m o=>?_,h.tJ,h.sZ⟩
 ·by_cases hl:d=l
  ·subst hl;rw[AH.get_set_same,y];exact P
  ·rw[i d hl];by_cases F:H.get d= .dead
   ·rw[F];trivial
   ·refine bn.world (λt a e=>j t λD=>?_) (h.eB d);subst D;exact F (h.sep l d t N a (λe=>hl e.symm) f y e)
 ·by_cases G:l1=l
  ·subst G;rw[i l2 (λe=>u e.symm)];exact h.sep l1 l2 r1 a L u f o E
  ·rw[i l1 G]at s;by_cases I:l2=l
   ·subst I;have:=h.sep l1 l2 r1 a L u s o E;rw[this]at f;cases f
   ·rw[i l2 I];exact h.sep l1 l2 r1 a L u s o E
 ·by_cases hl:d=l
  ·subst hl;exact h.iB d t a f o
  ·rw[i d hl]at m;exact h.iB d t a m o
 ·obtain⟨o,E⟩:=h.gY k O;refine⟨o,?_⟩;rw[<-E];refine j k λe=>?_
  subst e;exact O.elim (h.iB l k N f y) (h.hid l k N (λe=>by rw[e]at f;cases f) y)
 ·rw[J];exact h.size
 ·by_cases hl:d=l
  ·subst hl;exact h.hid d t a (λe=>by rw[e]at f;cases f) o
  ·rw[i d hl]at F;exact h.hid d t a F o
 ·obtain⟨el,Q,R⟩:=h.sY k vs e;refine⟨el,Q,(j k λD=>?_).trans R⟩;subst D;have:=h.sy l k N f y
  grind
 ·by_cases hl:d=l
  ·subst hl;exact h.sy d t a f o
  ·rw[i d hl]at m;exact h.sy d t a m o
theorem Rel.kill{c ρ H w}(h:Rel c ρ H w)(l):Rel c ρ (H.set l .dead) w:=by
 have f:∀d,(H.set l .dead).get d=H.get d∨(H.set l .dead).get d= .dead:=λd=>by
  by_cases e:d=l
  ·subst e;exact .inr (AH.get_set_same H .dead d)
  ·exact .inl (AH.aL _ _ (λs=>e s.symm))
 refine⟨λd=>?_,λl1 l2 r a t m b j u=>?_,λd r a b j=>?_,h.gY,h.size,h.os,h.output,h.tape,λd i=>h.top d (by simpa using i),h.eZ,λd r a o j=>?_,λd i=>by simpa using h.env d i,λd i=>(f d).elim (λe=>e.trans (h.low d (by simpa using i))) id,h.sY,λd r a b j=>?_,h.tJ,h.sZ⟩
 ·rcases f d with e|e
  ·rw[e];exact h.eB d
  ·rw[e];trivial
 ·rcases f l1 with e|e
  ·rw[e]at b;rcases f l2 with q|q
   ·rw[q];exact h.sep l1 l2 r a t m b j u
   ·exact q
  ·rw[e]at b;cases b
 ·rcases f d with e|e
  ·rw[e]at b;exact h.iB d r a b j
  ·rw[e]at b;cases b
 ·rcases f d with e|e
  ·rw[e]at o;exact h.hid d r a o j
  ·exact absurd e o
 ·rcases f d with e|e
  ·rw[e]at b;exact h.sy d r a b j
  ·rw[e]at b;cases b
end
section
structure RI (R:Type) where
 fail:R
 cond:Bool->(Unit->R)->(Unit->R)->R
 ag:Bool->R->R
structure RI.Ok {R:Type} (X:RI R) (sem:R->Prop):Prop where
 fail :¬ sem X.fail
 cond:∀b x a,sem (X.cond b x a)->if b=true then sem (x ())else sem (a ())
 ag:∀b x,sem (X.ag b x)->b=true/\sem x
def ak(b:Bool)(x y:Prop):Prop:=match b with|true=>x|false=>y
def B(b:Bool)(x:Prop):Prop:=match b with|true=>x|false=>False
theorem ZF{b x}(h:b=true)(k:x):B b x:=by subst h;exact k
theorem aaz{b x y}(h:b=true->x)(k:b=false->y):ak b x y:=by cases b with|true=>exact h A|false=>exact k A
def RI.l3:RI Prop:={fail:=False,cond:=λb x y=>ak b (x ()) (y ()),ag:=B}
theorem RI.dX:RI.l3.Ok id:=⟨λh=>h,λb _ _ h=>by cases b<;>exact h,λb _ h=>by
 cases b with
 |true=>exact⟨rfl,h⟩
 |false=>exact h.elim⟩
mutual
def jd:Value->Option AV
 | .bool b=>M (.bool b)
 | .int k n=>M (.int k n)
 | .string ⟨⟨s⟩⟩=>M (.str s)
 | .pointer b_=>M .nilPtr
 | .slice b_ 0 0=>M .aD
 | .map b_=>M (.map b_)
 | .nilFunc=>M .jm
 | .nilIface=>M .nilIface
 | .func (.func f) ⟨[]⟩ ⟨[]⟩=>M (.fn f [] [])
 | .iface t v=>(jd v).map (.iface t)
 | .agg ⟨cs⟩=>(u5 cs).map .agg
 | .tuple ⟨cs⟩=>(u5 cs).map .bM
 |_=>b_
def u5:List Value->Option (List AV)
 |[]=>M []
 |v::vs=>(jd v).bind λa=>(u5 vs).map (a :: ·)
end
mutual
theorem mB(ρ:Env):∀(v:Value)(a:AV),jd v=M a->VR ρ a v
 | .bool b,a,h=>by simp only[jd,gO]at h;subst h;simp[VR]
 | .int k n,a,h=>by simp only[jd,gO]at h;subst h;simp[VR]
 | .string ⟨⟨s⟩⟩,a,h=>by simp only[jd,gO]at h;subst h;simp[VR]
 | .pointer b_,a,h=>by simp only[jd,gO]at h;subst h;simp[VR]
 | .slice b_ 0 0,a,h=>by simp only[jd,gO]at h;subst h;simp[VR]
 | .map b_,a,h=>by simp only[jd,gO]at h;subst h;simp[VR]
 | .nilFunc,a,h=>by simp only[jd,gO]at h;subst h;simp[VR]
 | .nilIface,a,h=>by simp only[jd,gO]at h;subst h;simp[VR]
 | .func (.func f) ⟨[]⟩ ⟨[]⟩,a,h=>by simp only[jd,gO]at h;subst h;simp only[VR];exact⟨[],[],rfl,zH,zH⟩
 | .func (.func _) ⟨[]⟩ ⟨_::_⟩,a,h=>zL
 | .iface t v,a,h=>by simp only[jd,e_]at h;obtain⟨x,c,rfl⟩:=h;simp only[VR];exact⟨v,rfl,mB ρ v x c⟩
 | .agg ⟨cs⟩,a,h=>by simp only[jd,e_]at h;obtain⟨as,c,rfl⟩:=h;simp only[VR];exact⟨cs,rfl,u6 ρ cs as c⟩
 | .tuple ⟨cs⟩,a,h=>by simp only[jd,e_]at h;obtain⟨as,c,rfl⟩:=h;simp only[VR];exact⟨cs,rfl,u6 ρ cs as c⟩
 | .float _ _,a,h=>zL
 | .complex _ _ _,a,h=>zL
 | .pointer (M _),a,h=>zL
 | .slice (M _) _ _,a,h=>zL
 | .slice b_ (_+1) _,a,h=>zL
 | .slice b_ 0 (_+1),a,h=>zL
 | .map (M _),a,h=>zL
 | .chan _,a,h=>zL
 | .func (.func _) ⟨_::_⟩ _,a,h=>zL
 | .func (.method _) _ _,a,h=>zL
 | .func (.methodOf _ _) _ _,a,h=>zL
 | .func (.via _ _ _ _) _ _,a,h=>zL
 | .func (.yield _) _ _,a,h=>zL
theorem u6(ρ:Env):∀(vs:List Value)(as:List AV),u5 vs=M as->aV ρ as vs
 |[],as,h=>by simp only[u5,gO]at h;subst h;simp[aV]
 |v::vs,as,h=>by simp only[u5,Option.bind_eq_some_iff,e_]at h;obtain⟨a,c,d,e,rfl⟩:=h;exact aV.aM.2 ⟨mB ρ v a c,u6 ρ vs d e⟩
end
structure bg where
 eI:TypeId->Option TypeDesc
 size:TypeId->Option Nat
 bytes:TypeId->Option Nat
 zero:TypeId->Option AV
 body:FuncId->Option (Code×Nat×List ResultVar)
 LD:TypeId->Bool
 fields:TypeId->Option (List (TypeId×Nat))
 held:TypeId->Bool
 G:Nat
 wr:Bool
structure bg.Ok (I:bg) (P:Program):Prop where
 eI:∀e b,I.eI e=M b->P.underlying e=M b
 size:∀e n,I.size e=M n->∃i,P.info? e=M i/\i.size=n
 bytes:∀e n,I.bytes e=M n->∃i,P.info? e=M i/\i.bytes=n
 zero:∀e a,I.zero e=M a->∃i g,P.info? e=M i/\i.zero=M g/\jd g=M a
 body:∀f c n rs,I.body f=M (c,n,rs)->∃fn,P.funcs[f]? =M fn/\fn.body=M c/\fn.ntmps=n/\fn.results.toList=rs/\∀args w,(callFunc f args).run P w= .ok (.enter f args) w
 LD:∀e,I.LD e=true->P.eqGuardType P.depth e=false
 fields:∀e l,I.fields e=M l->∃fs,P.underlying e=M (.struct fs)/\l=fs.toList.map (λf=>(f.type,f.offset))/\∀f∈fs.toList,f.name≠ "_"
 held:∀e,I.held e=true->P.stoodInHeld e=false
 mixed:P.follows .mixedOrders=true
section
variable {I:bg} {P:Program} (hI:I.Ok P) (w:World)
include hI
theorem bg.Ok.aY{t d}(h:I.eI t=M d):(underlying t).run P w= .ok d w:=by
 simp[underlying,hI.eI t d h]
theorem bg.Ok.cm{t n}(h:I.size t=M n):(sizeOf t).run P w= .ok n w:=by
 obtain⟨i,a,b⟩:=hI.size t n h;simp[sizeOf,typeInfo,a,b]
theorem bg.Ok.oz{t a}(h:I.zero t=M a):∃b,(zeroValue t).run P w= .ok b w/\∀ρ,VR ρ a b:=by
 obtain⟨i,b,c,d,h3⟩:=hI.zero t a h;exact⟨b,by simp[zeroValue,typeInfo,c,d],λρ=>mB ρ b a h3⟩
end
def AV.one:AV->Bool
 | .agg _| .bM _| .any=>false
 |_=>true
def AV.cells? :AV->Option (List AV)
 | .agg cs=>bif cs.all AV.one then M cs else b_
 | .bM _| .any=>b_
 |a=>M [a]
theorem AV.mC{a:AV}{cs}(h:a.cells? =M cs):cs.all AV.one=true:=by
 cases a<;>simp only[AV.cells?,gO,reduceCtorEq]at h
 case agg xs=>
  grind
 all_goals subst h;rfl
theorem VR.one{ρ:Env}{a:AV}{v:Value}(h:VR ρ a v)(ha:a.one=true):v.oneCell'=true:=by
 cases a with
 |bool|int|str|nilPtr|aD|jm|nilIface=>simp only[VR]at h;subst h;rfl
 |ptr=>simp only[VR]at h;obtain⟨_,_,_,rfl⟩:=h;rfl
 |slice=>simp only[VR]at h;obtain⟨_,_,_,_,_,rfl,_⟩:=h;rfl
 |own=>simp only[VR]at h;rcases h with⟨_,rfl⟩|⟨_,_,_,_,rfl,_⟩<;>rfl
 |map l=>
  cases l<;>simp only[VR]at h
  ·subst h;rfl
  ·obtain⟨_,_,_,rfl⟩:=h;rfl
 |fn=>simp only[VR]at h;obtain⟨_,_,rfl,_⟩:=h;rfl
 |yield=>simp only[VR]at h;obtain⟨_,_,_,rfl⟩:=h;rfl
 |iface=>simp only[VR]at h;obtain⟨_,rfl,_⟩:=h;rfl
 |bW=>simp only[VR]at h;obtain⟨_,_,_,rfl,_⟩:=h;rfl
 |addr=>simp only[VR]at h;subst h;rfl
 |ae=>simp only[VR]at h;rcases h with⟨_,rfl⟩|⟨_,_,_,_,_,rfl,_⟩<;>rfl
 |agg|bM|any=>simp[AV.one]at ha
theorem VR.cells_one{ρ a v}(h:VR ρ a v)(ha:a.one=true):v.cells.toList=[v]:=by
 have:=VR.one h ha;cases v<;>simp_all[Value.oneCell',Value.cells]
theorem VR.cells{ρ a v cs}(h:VR ρ a v)(b:a.cells? =M cs):aV ρ cs v.cells.toList:=by
 by_cases ha:a.one=true
 ·rw[VR.cells_one h ha];have:cs=[a]:=by cases a<;>simp_all[AV.one,AV.cells?]
  subst this;exact aV.aM.2 ⟨h,zH⟩
 ·cases a with
  |agg xs=>
   simp only[AV.cells?]at b;cases hx:xs.all AV.one<;>rw[hx]at b<;>simp at b;subst b;simp only[VR]at h;obtain⟨vs,rfl,h⟩:=h
   assumption
  |bM|any=>simp[AV.cells?]at b
  |_=>simp[AV.one]at ha
theorem aV.Pc{ρ}:∀{as vs},aV ρ as vs->as.all AV.one=true->∀v∈vs,v.oneCell'=true
 |[],vs,h,_,v,b=>by simp only[aV]at h;subst h;cases b
 |a::as,vs,h,ha,v,b=>by
  simp only[aV]at h;obtain⟨u,us,rfl,r,s⟩:=h;simp only[List.all_cons,ba]at ha;rcases List.mem_cons.1 b with rfl|b
  ·exact VR.one r ha.1
  ·exact aV.Pc s ha.2 v b
theorem addr_add(b o n):Addr.add ⟨b,o,b_⟩ n=⟨b,o+n,b_⟩:=by
 unfold Addr.add;simp
def aae.JW:aae->(k e j n:Nat)->Option (Bool×List AV)
 | .cells cs _,k,e,j,n=>M (g_ (k*e+j+n<=cs.length),(cs.drop (k*e+j)).take n)
 | .rows m a f _,k,e,j,n=>if e=a/\j+n<=a then M (g_ (k<m),((f k).drop j).take n)else b_
 |_,_,_,_,_=>b_
def aae.at(b:aae)(k e j n:Nat):Option (Bool×List AV):=b.un.JW k e j n
theorem dF(n)(f):rowsOf (n+1) f=rowsOf n f++f n:=by simp[rowsOf,h_]
theorem bD{n e f}(h:∀i,i<n->(f i).length=e):(rowsOf n f).length=n*e:=by
 induction n with
 |zero=>simp[rowsOf]
 |succ n a=>rw[dF,j_,a (λi hi=>h i O),h n O,m_]
theorem nL{n e f}(h:∀i,i<n->(f i).length=e){k}(c:k<n):∃t,(rowsOf n f).drop (k*e)=f k++t:=by
 induction n with
 |zero=>omega
 |succ n b=>
  have hl:=bD (n:=n) (e:=e) (f:=f) (λi hi=>h i O);rw[dF];by_cases a:k<n
  ·obtain⟨t,ht⟩:=b (λi hi=>h i O) a;have:k*e<=n*e:=n_ e O
   grind
  ·have:k=n:=by omega
   simp_all
theorem aae.Xl{ρ:Env}{w:World}{r N:Nat}{b:aae}{k e j n:Nat}{l:List AV}(h:bn ρ w (M (r,N)) b)(ha:b.JW k e j n=M (true,l)):
  ∃us:List Value,aV ρ l us/\us.length=n/\k*e+j+n<=N/\∀(i:Nat) v,us[i]? =M v->w.cell? ⟨r,k*e+j+i,b_⟩=M v:=by
 have key:∀(cs:List AV) rw,aE ρ w (M (r,N)) cs rw->k*e+j+n<=cs.length->∃us:List Value,aV ρ ((cs.drop (k*e+j)).take n) us/\us.length=n/\k*e+j+n<=N/\
   ∀(i:Nat) v,us[i]? =M v->w.cell? ⟨r,k*e+j+i,b_⟩=M v:=by
  intro cs rw c hl;rcases c with⟨_,q⟩|⟨b,y,vs,rest,el,C,h1,s,h3,h4,_⟩
  ·cases q
  ·cases h1;have a:=h4.length_eq;refine⟨(vs.drop (k*e+j)).take n,(h4.drop _).take _,by simp;omega,by simp at h3;omega,λi v o=>?_⟩;have hi:i<n:=by
    have:=List.getElem?_eq_some_iff.1 o;obtain⟨h,_⟩:=this;simp at h;omega
   rw[l_ hi,o_]at o;simp only[World.cell?,s]
   grind
 cases b with
 |cells cs rw=>simp only[aae.JW,gO,Prod.mk.injEq,bl]at ha;obtain⟨hl,rfl⟩:=ha;exact key cs rw h hl
 |rows m D f rw=>
  simp only[aae.JW]at ha;split at ha
  ·rename_i c;obtain⟨rfl,E⟩:=c;simp only[gO,Prod.mk.injEq,bl]at ha;obtain⟨d,rfl⟩:=ha;have a:=bD h.1;have u:k*e+e<=m*e:=by
    have:=n_ e (O:k+1<=m);rw[m_]at this;exact this
   obtain⟨t,ht⟩:=nL h.1 d;have:=key (rowsOf m f) rw h.2 O;rw[<-List.drop_drop,ht,List.drop_append_of_le_length (by rw[h.1 k d];omega),List.take_append_of_le_length (by rw[List.length_drop,h.1 k d];omega)]at this;exact this
  ·cases ha
 |str=>simp[aae.JW]at ha
 |map es=>simp[aae.JW]at ha
 |loop=>simp[aae.JW]at ha
 |tL=>simp[aae.JW]at ha
 |iter=>simp[aae.JW]at ha
 |jn=>simp[aae.JW]at ha
 |dK=>simp[aae.JW]at ha
 |gy=>simp[aae.JW]at ha
 |dead=>simp[aae.JW]at ha
theorem aae.JX{ρ w r N b k e j n a}(h:bn ρ w (M (r,N)) b)(ha:b.at k e j n=M (true,a)):
  ∃us,aV ρ a us/\us.length=n/\k*e+j+n<=N/\∀(i) v,us[i]? =M v->w.cell? ⟨r,k*e+j+i,b_⟩=M v:=aae.Xl h.un ha
theorem kF{P:Program}{w:World}{r o:Nat}{us:List Value}(h:∀(i:Nat) v,us[i]? =M v->w.cell? ⟨r,o+i,b_⟩=M v):
  (loadCells ⟨r,o,b_⟩ us.length).run P w= .ok us.toArray w:=by
 have key:∀(n i:Nat)(acc:Array Value),i+n=us.length->(loadCellsFrom ⟨r,o,b_⟩ i n acc).run P w= .ok (acc++(us.drop i).toArray) w:=by
  intro n
  induction n with
  |zero=>
   intro i acc hi;have:us.drop i=[]:=by simp;omega
   simp[loadCellsFrom,this]
  |succ n b=>intro i acc hi;have a:i<us.length:=O;have c:=h i us[i] (oa a);simp only[loadCellsFrom,Sem.run_bind,run_load,addr_add,c,Result.andThen_ok];rw[b (i+1) _ O,List.drop_eq_getElem_cons a];simp
 have:=key us.length 0 #[] zA;simpa [loadCells]using this
def TypeDesc.agg:TypeDesc->Bool
 | .struct _| .array _ _=>true
 |_=>false
theorem bg.Ok.rH{I:bg}{P}(hI:I.Ok P)(w){t d}(h:I.eI t=M d):(isAgg t).run P w= .ok (TypeDesc.agg d) w:=by
 simp only[isAgg,Sem.run_bind,hI.aY w h,Result.andThen_ok];cases d<;>rfl
theorem tI.cell{c ρ H w}(a:Rel c ρ H w){b o vs}(h:tI ρ b o vs)(i)(v)(d:vs[i]? =M v):w.cell? ⟨b,o+i,b_⟩=M v:=by
 obtain⟨_,pre,rest,j,f⟩:=h;obtain⟨el,l,h3⟩:=a.sY _ _ f;have hi:=(List.getElem?_eq_some_iff.1 d).1;simp only[World.cell?,h3,Option.isSome_none,lu,if_false,List.getElem?_toArray]
 grind
theorem aV.flat{ρ f a}:∀{n},(∀i,i<n->aV ρ (f i) (a i))->aV ρ (rowsOf n f) ((z n).flatMap a)
 |0,_=>by simp[rowsOf,aV]
 |n+1,h=>by rw[dF,h_,f_];exact aV.append (aV.flat λi hi=>h i O) Y
def Ua(H:AH):AV->Option (aae×Nat×Nat×Nat)
 | .ptr l k e j=>M (H.get l,k,e,j)
 | .bW cs j=>M (.cells cs .ro,0,0,j)
 |_=>b_
theorem CH{H p eB k e j}(h:Ua H p=M (eB,k,e,j)){c ρ w r}(f:VR ρ p r)(s:Rel c ρ H w):
  ∃b o,r= .pointer (M ⟨b,o,b_⟩)/\∀n g,eB.at k e j n=M (true,g)->∃us,aV ρ g us/\us.length=n/\∀(i) v,us[i]? =M v->w.cell? ⟨b,o+i,b_⟩=M v:=by
 unfold Ua at h;split at h
 ·rename_i l _ _ _;simp only[gO,Prod.mk.injEq]at h;obtain⟨rfl,rfl,rfl,rfl⟩:=h;simp only[VR]at f;obtain⟨b,N,y,rfl⟩:=f;have d:=s.eB l;rw[y]at d;refine⟨b,_,rfl,λn g a=>?_⟩;obtain⟨us,t,m,_,h4⟩:=aae.JX d a
  grind
 ·rename_i cs u;simp only[gO,Prod.mk.injEq]at h;obtain⟨rfl,rfl,rfl,rfl⟩:=h;simp only[VR]at f;obtain⟨b,o,vs,rfl,t,m⟩:=f;refine⟨b,_,rfl,λn g a=>?_⟩;simp only[aae.at,aae.un,aae.JW,gO,Prod.mk.injEq,bl,Nat.zero_mul,Nat.zero_add]at a;obtain⟨C,rfl⟩:=a;have x:=m.length_eq;refine⟨(vs.drop u).take n,((aV.ext (Ext.rD ρ) _ _ m).drop u).take n,by simp;omega,λi v q=>?_⟩;have hi:i<n:=by
   have:=(List.getElem?_eq_some_iff.1 q).1;simp at this;omega
  rw[l_ hi,o_]at q;have:=tI.cell s t _ _ q
  grind
 ·cases h
def wb:List AV->Bool
 |[]=>true
 | .int w_ _::cs=>wb cs
 |_=>false
def dn:List AV->Nat->Int
 |[],_=>0
 | .int _ i::_,0=>i
 |_::_,0=>0
 |_::cs,n+1=>dn cs n
theorem xG:∀(cs)(n),wb cs=true->n<cs.length->(cs.drop n).take 1=[.int w_ (dn cs n)]
 |[],n,_,h=>Y
 | .int w_ i::cs,0,_,_=>rfl
 | .int w_ i::cs,n+1,h,a=>xG cs n h Y
def Hd(b:aae)(e:Nat):Option (List AV):=match e with
 |1=>match b with
  | .cells cs _=>bif a_ cs.length 16&&wb cs then M cs else b_
  |_=>b_
 |_=>b_
theorem LF{b k e j cs}(h:Hd b e=M cs)(f:k*e+j<cs.length):b.at k e j 1=M (true,[.int w_ (dn cs (k*e+j))]):=by
 unfold Hd at h;split at h
 ·split at h
  ·rename_i c a;cases d:(a_ c.length 16&&wb c)with
   |false=>rw[d]at h;cases h
   |true=>rw[d]at h;cases h;rw[ba]at d;show M (g_ (k*1+j+1<=cs.length),(cs.drop (k*1+j)).take 1)=_;rw[xG cs _ d.2 f,bK O]
  ·cases h
 ·cases h
def wc{R:Type}(X:RI R)(I:bg)(t:TypeId)(H:AH)(p:AV)(K:AV->R):R :=
 match Ua H p,I.eI t with
 |some (eB,k,e,j),M d=>
  match TypeDesc.agg d with
  |true=>match I.size t with
   |some n=>match eB.at k e j n with
    |some (ok,xs)=>X.ag ok (K (.agg xs))
    |none=>X.fail
   |none=>X.fail
  |false=>match Hd eB e with
   |some cs=>X.ag (g_ (k*e+j<cs.length)) (K (.int w_ (dn cs (k*e+j))))
   |none=>match eB.at k e j 1 with
    |some (ok,[x])=>X.ag ok (K x)
    |_=>X.fail
 |_,_=>X.fail
theorem qC{R X}{sem:R->Prop}(hX:X.Ok sem){I P}(hI:I.Ok P){t H p K}(h:sem (wc X I t H p K)):
  ∃a,sem (K a)/\∀(c) ρ w y,VR ρ p y->Rel c ρ H w->∃v,(Instr.loadAt t y).run P w= .ok v w/\VR ρ a v:=by
 unfold wc at h;split at h
 ·rename_i eB k e j d l E;split at h
  ·rename_i g;split at h
   ·rename_i n G;split at h
    ·rename_i ok J i;obtain⟨m,C⟩:=hX.ag _ _ h;subst m;refine⟨_,C,λc ρ w y q D=>?_⟩;obtain⟨b,o,rfl,f⟩:=CH l q D;obtain⟨us,r,s,h4⟩:=f _ _ i;refine⟨.agg us.toArray,?_,by simp only[VR];grind⟩;simp only[Instr.loadAt,Instr.sureAddr,loadVar,Sem.run_bind,Sem.run_pure,Result.andThen_ok,hI.rH w E,g,if_true,hI.cm w G];rw[<-s,kF h4];simp
    ·exact zR
   ·exact zR
  ·rename_i g;have key:∃x,sem (K x)/\eB.at k e j 1=M (true,[x]):=by
    split at h
    ·rename_i cs q;obtain⟨r,s⟩:=hX.ag _ _ h;exact⟨_,s,LF q Y⟩
    ·split at h
     ·rename_i ok x i;obtain⟨m,C⟩:=hX.ag _ _ h
      grind
     ·exact zR
   obtain⟨x,C,i⟩:=key;refine⟨_,C,λc ρ w y q D=>?_⟩;obtain⟨b,o,rfl,f⟩:=CH l q D;obtain⟨us,r,s,h4⟩:=f _ _ i
   match us,s,r,h4 with
   |[u],_,r,h4=>have F:=h4 0 u A;refine⟨u,?_,(aV.aM.1 r).1⟩;simp only[Nat.add_zero]at F;simp[Instr.loadAt,Instr.sureAddr,loadVar,hI.rH w E,g,F]
 ·exact zR
end
section
structure oA (w w':World):Prop where
 size:w.heap.size<=w'.heap.size
 same:∀k,k<w.heap.size->w'.heap[k]? =w.heap[k]?
theorem oA.refl(w):oA w w:=⟨dP _,λ_ _=>rfl⟩
theorem oA.trans{a b c}(h:oA a b)(k:oA b c):oA a c:=⟨Nat.le_trans h.size k.size,λi hi=>(k.same i (Nat.lt_of_lt_of_le hi h.size)).trans (h.same i hi)⟩
theorem oA.push(w)(o):oA w {w with heap:=w.heap.push o}:=⟨zA,λ_ a=>jo a⟩
def gg(P:Program)(s:Sem Value)(c:fE)(ρ:Env)(w:World)(a:AV)(H':AH):Prop :=
 ∃b w' ρ',s.run P w= .ok b w'/\Ext ρ ρ'/\Rel c ρ' H' w'/\VR ρ' a b/\oA w w'
section
variable {P:Program} {c:fE} {ρ:Env} {w:World} {H:AH}
theorem gg.same{s v a}(b:s.run P w= .ok v w)(d:Rel c ρ H w)(ha:VR ρ a v):gg P s c ρ w a H :=
 ⟨v,w,ρ,b,Ext.refl ρ,d,ha,oA.refl w⟩
theorem gg.row{s vs cs el}{mk:Addr->Value}{a}(f:Rel c ρ H w)(i:aV ρ cs vs)(j:cs.all AV.one=true)
  (l:s.run P w= .ok (mk ⟨w.heap.size,0,b_⟩) {w with heap:=w.heap.push (.cells vs.toArray el)})
  (ha:∀ρ',ρ' H.n=M (w.heap.size,vs.length)->VR ρ' a (mk ⟨w.heap.size,0,b_⟩)):gg P s c ρ w a (H.new (.cells cs (.ty el))):=by
 obtain⟨hx,b⟩:=f.new (.cells vs.toArray el) vs.length (.cells cs (.ty el)) λw' d=>by refine .inr ⟨_,_,vs,[],el,(0,0),rfl,?_,zA,aV.ext (Env.pz _ (f.top _ (dP _))) _ _ i,⟨O,zA,λ_ h=>zE⟩,aV.Pc i j,λe=>zG⟩;simpa using d
 exact⟨_,_,_,l,hx,b,ha _ (Env.da _ _ _),oA.push _ _⟩
end
def Ei(n b:Int):Bool:=match n with
 | .ofNat a=>(match b with| .ofNat c=>r_ a c| .negSucc _=>false)
 | .negSucc a=>(match b with| .ofNat _=>true| .negSucc c=>r_ c a)
theorem kQ{n b}:Ei n b=true↔n<=b:=by
 cases n with
 |ofNat a=>cases b with
  |ofNat c=>simp only[Ei,x_,i_];omega
  |negSucc c=>simp only[Ei,i_,k_,lu,false_iff];omega
 |negSucc a=>cases b with
  |ofNat c=>simp only[Ei,i_,k_,true_iff];omega
  |negSucc c=>simp only[Ei,x_,k_];omega
theorem Pd(n b):Ei n b=g_ (n<=b):=by
 cases h:Ei n b with
 |true=>exact(bK (kQ.1 h)).symm
 |false=>exact(nJ λe=>by rw[kQ.2 e]at h;cases h).symm
def aJ(k:IntKind)(n:Int):Bool:=Ei k.min n&&Ei n k.max
theorem Pe{k n}(h:aJ k n=true):k.wrap n=n:=by
 simp only[aJ,ba,kQ]at h;obtain⟨a,b⟩:=h;unfold z_;cases k<;>simp only[A_,v_,p_,t_,lu,if_true,if_false,Bool.true_and,Bool.false_and]at a b⊢ <;>(try split)<;>simp at* <;>omega
def fits(wr:Bool)(k:IntKind)(n:Int):Bool×Int :=
 bif wr || !k.signed then(true,k.wrap n)else(aJ k n,n)
theorem pA{wr k n m}(h:fits wr k n=(true,m)):k.wrap n=m:=by
 unfold fits at h;cases a:(wr || !k.signed)<;>rw[a]at h<;>simp only[cond_true,cond_false,Prod.mk.injEq,true_and]at h
 ·rw[Pe h.1];exact h.2
 ·exact h
def bitsOf(op:BinOp)(k:IntKind)(x y:Int):Int :=
 k.wrap (match op with
  | .and=>d_ k.bits x &&& d_ k.bits y
  | .or=>d_ k.bits x ||| d_ k.bits y
  | .xor=>d_ k.bits x^^^d_ k.bits y
  |_=>d_ k.bits x &&& ~~~d_ k.bits y:BitVec k.bits).toNat
def Pf{R:Type}(X:RI R)(wr:Bool)(op:BinOp)(k:IntKind)(x y:Int)(K:AV->R):R :=
 match op with
 | .add=>X.ag (fits wr k (x+y)).1 (K (.int k (fits wr k (x+y)).2))
 | .sub=>X.ag (fits wr k (x-y)).1 (K (.int k (fits wr k (x-y)).2))
 | .mul=>X.ag (fits wr k (x*y)).1 (K (.int k (fits wr k (x*y)).2))
 | .quo=>X.ag (!(y==0)&&(fits wr k (x.tdiv y)).1) (K (.int k (fits wr k (x.tdiv y)).2))
 | .rem=>X.ag (!(y==0)) (K (.int k (x.tmod y)))
 | .and| .or| .xor| .andNot=>K (.int k (bitsOf op k x y))
 | .eql=>K (.bool (x==y))
 | .neq=>K (.bool (x !=y))
 | .lss=>K (.bool (g_ (x<y)))
 | .leq=>K (.bool (g_ (x<=y)))
 | .gtr=>K (.bool (g_ (x>y)))
 | .geq=>K (.bool (g_ (x>=y)))
 |_=>X.fail
theorem Pg{R X}{sem:R->Prop}(hX:X.Ok sem)(P){wr op k x y K}(h:sem (Pf X wr op k x y K))(t):
  ∃v a,sem (K a)/\(∀ρ,VR ρ a v)/\∀w,(binOp op t (.int k x) (.int k y)).run P w= .ok v w:=by
 unfold Pf at h;split at h
 case h_1=>obtain⟨b,c⟩:=hX.ag _ _ h;have:=pA (wr:=wr) (k:=k) (n:=x+y) (m:=(fits wr k (x+y)).2) (by rw[<-b]);exact⟨_,_,c,λρ=>by simp only[VR];rfl,λw=>by simp[binOp,Op.intArith,this]⟩
 case h_2=>obtain⟨b,c⟩:=hX.ag _ _ h;have:=pA (wr:=wr) (k:=k) (n:=x-y) (m:=(fits wr k (x-y)).2) (by rw[<-b]);exact⟨_,_,c,λρ=>by simp only[VR];rfl,λw=>by simp[binOp,Op.intArith,this]⟩
 case h_3=>obtain⟨b,c⟩:=hX.ag _ _ h;have:=pA (wr:=wr) (k:=k) (n:=x*y) (m:=(fits wr k (x*y)).2) (by rw[<-b]);exact⟨_,_,c,λρ=>by simp only[VR];rfl,λw=>by simp[binOp,Op.intArith,this]⟩
 case h_4=>obtain⟨b,c⟩:=hX.ag _ _ h;simp only[ba,q_,beq_eq_false_iff_ne,ne_eq]at b;have:=pA (wr:=wr) (k:=k) (n:=x.tdiv y) (m:=(fits wr k (x.tdiv y)).2) (by rw[<-b.2]);exact⟨_,_,c,λρ=>by simp only[VR];rfl,λw=>by simp[binOp,Op.intDiv,this,b.1]⟩
 case h_5=>obtain⟨b,c⟩:=hX.ag _ _ h;simp only[q_,beq_eq_false_iff_ne,ne_eq]at b;exact⟨_,_,c,λρ=>by simp only[VR];rfl,λw=>by simp[binOp,Op.intDiv,b]⟩
 case h_6=>exact⟨_,_,h,λρ=>by simp only[VR];rfl,λw=>by simp[binOp,Op.intBits,bitsOf]⟩
 case h_7=>exact⟨_,_,h,λρ=>by simp only[VR];rfl,λw=>by simp[binOp,Op.intBits,bitsOf]⟩
 case h_8=>exact⟨_,_,h,λρ=>by simp only[VR];rfl,λw=>by simp[binOp,Op.intBits,bitsOf]⟩
 case h_9=>exact⟨_,_,h,λρ=>by simp only[VR];rfl,λw=>by simp[binOp,Op.intBits,bitsOf]⟩
 case h_10=>exact⟨_,_,h,λρ=>by simp only[VR];rfl,λw=>zP⟩
 case h_11=>exact⟨_,_,h,λρ=>by simp only[VR];rfl,λw=>zP⟩
 case h_12=>exact⟨_,_,h,λρ=>by simp only[VR];rfl,λw=>zP⟩
 case h_13=>exact⟨_,_,h,λρ=>by simp only[VR];rfl,λw=>zP⟩
 case h_14=>exact⟨_,_,h,λρ=>by simp only[VR];rfl,λw=>zP⟩
 case h_15=>exact⟨_,_,h,λρ=>by simp only[VR];rfl,λw=>zP⟩
 case h_16=>exact zR
def CI{R:Type}(X:RI R)(wr:Bool)(op:BinOp)(k:IntKind)(x y:Int)(K:AV->R):R :=
 match op with
 | .shl=>X.ag (g_ (0<=y)&&(fits wr k (x*2^(min y.toNat k.bits))).1) (K (.int k (fits wr k (x*2^(min y.toNat k.bits))).2))
 | .shr=>X.ag (g_ (0<=y)) (K (.int k (x.fdiv (2^(min y.toNat k.bits)))))
 |_=>X.fail
theorem xH{R X}{sem:R->Prop}(hX:X.Ok sem)(P){wr op k d x y K}(h:sem (CI X wr op k x y K))(t):
  ∃v a,sem (K a)/\(∀ρ,VR ρ a v)/\∀w,(binOp op t (.int k x) (.int d y)).run P w= .ok v w:=by
 unfold CI at h;split at h
 ·obtain⟨b,c⟩:=hX.ag _ _ h;simp only[ba,bl]at b;have:=pA (wr:=wr) (k:=k) (n:=x*2^(min y.toNat k.bits)) (m:=(fits wr k (x*2^(min y.toNat k.bits))).2) (by rw[<-b.2]);exact⟨_,_,c,λρ=>by simp only[VR];rfl,λw=>by simp[binOp,Op.shift,this,show¬ y<0 by omega]⟩
 ·obtain⟨b,c⟩:=hX.ag _ _ h;simp only[bl]at b;exact⟨_,_,c,λρ=>by simp only[VR];rfl,λw=>by simp[binOp,Op.shift,show¬ y<0 by omega]⟩
 ·exact zR
def dD(a b:List UInt8):List UInt8:=a++b
def Ph{R:Type}(X:RI R)(op:BinOp)(x y:List UInt8)(K:AV->R):R :=
 match op with
 | .add=>X.ag (g_ (x.length+y.length<=9223372036854775807)) (K (.str (dD x y)))
 | .eql=>K (.bool (x==y))
 | .neq=>K (.bool (!(x==y)))
 | .lss=>K (.bool (Op.bytesLess x y))
 | .leq=>K (.bool (Op.bytesLess x y||x==y))
 | .gtr=>K (.bool (!(Op.bytesLess x y||x==y)))
 | .geq=>K (.bool (!Op.bytesLess x y))
 |_=>X.fail
theorem Pj{R X}{sem:R->Prop}(hX:X.Ok sem)(P){op x y K}(h:sem (Ph X op x y K))(t):
  ∃v a,sem (K a)/\(∀ρ,VR ρ a v)/\∀w,(binOp op t (.string ⟨x.toArray⟩) (.string ⟨y.toArray⟩)).run P w= .ok v w:=by
 unfold Ph at h;split at h
 ·obtain⟨b,c⟩:=hX.ag _ _ h;simp only[bl]at b;refine⟨_,_,c,λρ=>by simp only[VR];rfl,λw=>?_⟩;have e:((⟨x.toArray⟩:ByteArray)++⟨y.toArray⟩)=⟨(dD x y).toArray⟩:=by
   apply ByteArray.ext;simp[dD]
  have d :¬ ((((⟨x.toArray⟩:ByteArray).size+(⟨y.toArray⟩:ByteArray).size:Nat):Int)>IntKind.i64.max):=by simp only[ByteArray.size,List.size_toArray,v_,p_,t_,if_true];omega
  simp only[binOp,Op.stringOp,d,if_false,e,Sem.run_pure]
 all_goals first
  |exact zR
  |exact⟨_,_,h,λρ=>by simp only[VR];rfl,λw=>by simp[binOp,Op.stringOp]⟩
end
end
end Go.Sx
