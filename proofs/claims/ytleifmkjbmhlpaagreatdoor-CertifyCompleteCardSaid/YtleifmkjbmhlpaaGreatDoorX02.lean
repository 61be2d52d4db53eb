/- The proof of a statement of the seat, part 2. -/
import Derived.ChangeKeysEq
import Derived.LaidEqlPtr
import Derived.Test.YtleifmkjbmhlpaaGreatDoorX01
set_option linter.all false
set_option linter.defProp false
set_option maxRecDepth 1000000
namespace Go.Sx
open Go
open Option renaming some->M,bind_eq_some_iff->z,map_eq_some_iff->a_,none->b_
noncomputable section
def apart(I:bg)(t:TypeId)(cs:List AV)(off:Nat):Option AV :=
 match I.eI t with
 |some d=>match TypeDesc.agg d with
  |true=>match I.size t with
   |some n=>if off+n<=cs.length then M (.agg ((cs.drop off).take n))else b_
   |none=>b_
  |false=>cs[off]?
 |none=>b_
def kX{I P}(hI:I.Ok P){t cs off a}(h:apart I t cs off=M a){ρ vs}(c:aV ρ cs vs)(w):
  ∃v,(part t vs.toArray off).run P w= .ok v w/\VR ρ a v:=by
 unfold apart at h;split at h
 ·rename_i d e;split at h
  ·rename_i b;split at h
   ·rename_i n g;split at h
    ·rename_i hl;cases h;have f:=c.length_eq;refine⟨.agg ((vs.drop off).take n).toArray,?_,by simp only[VR];exact⟨_,rfl,(c.drop off).take n⟩⟩;simp only[part,Sem.run_bind,hI.rH w e,b,Result.andThen_ok,if_true,hI.cm w g,Sem.run_pure];simp
    ·cases h
   ·cases h
  ·rename_i b;obtain⟨v,i,j⟩:=c.get off h;exact⟨v,by simp[part,hI.rH w e,b,i],j⟩
 ·cases h
def Pk(eq:TypeId->AV->AV->Option Bool)(I:bg)(c d:List AV):List (TypeId×Nat)->Option Bool
 |[]=>M true
 |(t,o)::e=>(apart I t c o).bind λa=>(apart I t d o).bind λb=>(eq t a b).bind λr=>(Pk eq I c d e).map λs=>r&&s
def He(eq:AV->AV->Option Bool)(I:bg)(e:TypeId)(n:Nat)(c d:List AV):List Nat->Option Bool
 |[]=>M true
 |i::is=>(apart I e c (i*n)).bind λa=>(apart I e d (i*n)).bind λb=>(eq a b).bind λr=>(He eq I e n c d is).map λs=>r&&s
def AX(I:bg):Nat->TypeId->AV->AV->Option Bool
 |0,_,_,_=>b_
 |d+1,t,x,y=>
  match I.eI t,x,y with
  |some .bool,.bool a,.bool b=>M (a==b)
  |some (.int _),.int k a,.int c b=>if k=c then M (a==b)else b_
  |some .string,.str a,.str b=>M (a==b)
  |some (.pointer _),.nilPtr,.nilPtr=>M true
  |some (.pointer _),.ptr _ _ _ _,.nilPtr=>M false
  |some (.pointer s),.ptr l k e j,.ptr g c h i=>if l=g/\k*e+j=c*h+i then(I.size s).bind λ_=>M true else b_
  |some (.pointer _),.nilPtr,.ptr _ _ _ _=>M false
  |some (.pointer _),.addr _ _,.nilPtr=>M false
  |some (.pointer _),.bW _ _,.nilPtr=>M false
  |some (.pointer _),.nilPtr,.bW _ _=>M false
  |some (.interface _),.nilIface,.nilIface=>M true
  |some (.interface _),.nilIface,.iface _ _=>M false
  |some (.interface _),.iface _ _,.nilIface=>M false
  |some (.slice _),.aD,.aD=>M true
  |some (.slice _),.slice _ _ _ _ _ _,.aD=>M false
  |some (.slice _),.aD,.slice _ _ _ _ _ _=>M false
  |some (.struct _),.agg xs,.agg f=>
   match I.held t,I.fields t with
   |true,M o=>Pk (AX I d) I xs f o
   |_,_=>b_
  |some (.array n e),.agg xs,.agg f=>
   match I.size e with
   |some m=>He (AX I d e) I e m xs f (List.range n)
   |none=>b_
  |_,_,_=>b_
def JY{I:bg}{P:Program}(hI:I.Ok P){d:Nat}{eq:TypeId->AV->AV->Option Bool}
  (c:∀t x y r,eq t x y=M r->∀ρ u v w,VR ρ x u->VR ρ y v->(Op.equalIn d t u v).run P w= .ok r w) {i j:List AV} {ρ:Env} {us vs:List Value} (k:aV ρ i us) (l:aV ρ j vs) (w:World):
  ∀(e:List Field)(r:Bool),(∀f∈e,f.name≠ "_")->Pk eq I i j (e.map λf=>(f.type,f.offset))=M r->(Op.eqFields d us.toArray vs.toArray e).run P w= .ok r w
 |[],r,_,h=>by simp only[List.map_nil,Pk,gO]at h;subst h;simp[Op.eqFields]
 |f::e,r,F,h=>by simp only[List.map_cons,Pk,z,a_]at h;obtain⟨a,m,b,n,p,h3,q,h4,rfl⟩:=h;obtain⟨u,o,r1⟩:=kX hI m k w;obtain⟨v,s,C⟩:=kX hI n l w;have D:=JY hI c k l w e q Y h4;have E:=c _ _ _ _ h3 ρ u v w r1 C;have g:f.name≠ "_" :=Y;cases p<;>simp[Op.eqFields,g,o,s,E,D]
def JZ{I:bg}{P:Program}(hI:I.Ok P){d:Nat}{e:TypeId}{n:Nat}{eq:AV->AV->Option Bool}
  (c:∀x y r,eq x y=M r->∀ρ u v w,VR ρ x u->VR ρ y v->(Op.equalIn d e u v).run P w= .ok r w) {f g:List AV} {ρ:Env} {us vs:List Value} (j:aV ρ f us) (k:aV ρ g vs) (w:World):
  ∀(is:List Nat)(r:Bool),He eq I e n f g is=M r->(Op.eqItems d e n us.toArray vs.toArray is).run P w= .ok r w
 |[],r,h=>by simp only[He,gO]at h;subst h;simp[Op.eqItems]
 |i::is,r,h=>by simp only[He,z,a_]at h;obtain⟨a,l,b,m,p,h3,q,h4,rfl⟩:=h;obtain⟨u,o,r1⟩:=kX hI l j w;obtain⟨v,s,t⟩:=kX hI m k w;have C:=JZ hI c j k w is q h4;have D:=c _ _ _ h3 ρ u v w r1 t;cases p<;>simp[Op.eqItems,o,s,D,C]
def xI{I P}(hI:I.Ok P):∀(d)(t)(x y)(r),AX I d t x y=M r->∀ρ u v w,VR ρ x u->VR ρ y v->(Op.equalIn d t u v).run P w= .ok r w
 |0,_,_,_,_,h=>by simp[AX]at h
 |d+1,t,x,y,r,h=>by
  intro ρ u v w hx a;unfold AX at h;split at h
  case h_1 c=>cases h;simp only[VR]at hx a;subst hx a;simp[Op.equalIn,hI.aY w c]
  case h_2 c=>
   split at h
   ·rename_i G;cases h;simp only[VR]at hx a;subst hx a;simp[Op.equalIn,hI.aY w c,G]
   ·cases h
  case h_3 c=>cases h;simp only[VR]at hx a;subst hx a;simp[Op.equalIn,hI.aY w c,beq_toListBytes]
  case h_4 c=>cases h;simp only[VR]at hx a;subst hx a;simp[Op.equalIn,hI.aY w c]
  case h_5 c=>cases h;simp only[VR]at hx a;obtain⟨_,_,_,rfl⟩:=hx;subst a;simp[Op.equalIn,hI.aY w c]
  case h_6 s l k e j Y Z e' j' c=>
   split at h
   ·rename_i H;obtain⟨rfl,J⟩:=H;simp only[z,gO]at h;obtain⟨n,K,rfl⟩:=h;obtain⟨i,L,_⟩:=hI.size _ _ K;simp only[VR]at hx a;obtain⟨b,N,O,rfl⟩:=hx;obtain⟨b',N',o,rfl⟩:=a;rw[O]at o;cases o;rw[J];simp[Op.equalIn,hI.aY w c,sizeOf,typeInfo,L,run_sameAddr_same]
   ·cases h
  case h_7 c=>cases h;simp only[VR]at hx a;obtain⟨_,_,_,rfl⟩:=a;subst hx;simp[Op.equalIn,hI.aY w c]
  case h_8 c=>cases h;simp only[VR]at hx a;subst hx a;simp[Op.equalIn,hI.aY w c]
  case h_9 c=>cases h;simp only[VR]at hx a;obtain⟨_,_,_,rfl,_⟩:=hx;subst a;simp[Op.equalIn,hI.aY w c]
  case h_10 c=>cases h;simp only[VR]at hx a;obtain⟨_,_,_,rfl,_⟩:=a;subst hx;simp[Op.equalIn,hI.aY w c]
  case h_11 c=>cases h;simp only[VR]at hx a;subst hx a;simp[Op.equalIn,hI.aY w c]
  case h_12 c=>cases h;simp only[VR]at hx a;obtain⟨_,rfl,_⟩:=a;subst hx;simp[Op.equalIn,hI.aY w c]
  case h_13 c=>cases h;simp only[VR]at hx a;obtain⟨_,rfl,_⟩:=hx;subst a;simp[Op.equalIn,hI.aY w c]
  case h_14 c=>cases h;simp only[VR]at hx a;subst hx a;simp[Op.equalIn,hI.aY w c]
  case h_15 c=>cases h;simp only[VR]at hx a;obtain⟨_,_,_,_,_,rfl,_⟩:=hx;subst a;simp[Op.equalIn,hI.aY w c]
  case h_16 c=>cases h;simp only[VR]at hx a;obtain⟨_,_,_,_,_,rfl,_⟩:=a;subst hx;simp[Op.equalIn,hI.aY w c]
  case h_17 xs Q c=>
   simp only[VR]at hx a;obtain⟨us,rfl,f⟩:=hx;obtain⟨vs,rfl,g⟩:=a;split at h
   ·rename_i R S T;obtain⟨F,p,rfl,U⟩:=hI.fields t R T;have ht:P.underlying t=M (.struct (P.fieldsOf t)):=by simp[Program.fieldsOf,p]
    rw[run_equalIn_struct w d t _ _ ht (hI.held t S)];have:P.fieldsOf t=F:=by simp[Program.fieldsOf,p]
    rw[this];exact JY hI (λV q C D E=>xI hI d V q C D E) f g w F.toList r U h
   ·cases h
  case h_18 n e xs Q c=>
   simp only[VR]at hx a;obtain⟨us,rfl,f⟩:=hx;obtain⟨vs,rfl,g⟩:=a;split at h
   ·rename_i m W;obtain⟨i,p,X⟩:=hI.size e m W;rw[run_equalIn_array w d _ _ (hI.eI t _ c) p];have:P.cellsOf e=m:=by simp[Program.cellsOf,p,X]
    rw[this];exact JZ hI (λq C D E=>xI hI d e q C D E) f g w _ r h
   ·cases h
  case h_19=>cases h
end
end Go.Sx
