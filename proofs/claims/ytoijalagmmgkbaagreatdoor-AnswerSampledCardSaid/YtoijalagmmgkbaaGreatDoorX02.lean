/- Lemmas, part 2. -/
import Derived.ChangeKeysEq
import Derived.LaidEqlPtr
import Derived.Test.YtoijalagmmgkbaaGreatDoorX01
set_option linter.all false
set_option linter.defProp false
set_option maxRecDepth 1000000
namespace Go.Sx
open Go
open Option renaming some->M,bind_eq_some_iff->z,map_eq_some_iff->a_,none->b_
noncomputable section
def apart(I:ba)(t:TypeId)(cs:List AV)(off:Nat):Option AV :=
 match I.dI t with
 |some d=>match TypeDesc.agg d with
  |true=>match I.size t with
   |some n=>if off+n<=cs.length then M (.agg ((cs.drop off).take n))else b_
   |none=>b_
  |false=>cs[off]?
 |none=>b_
def QI{I P}(hI:I.Ok P){t cs off a}(h:apart I t cs off=M a){ρ vs}(c:aU ρ cs vs)(w):
  ∃v,(part t vs.toArray off).run P w= .ok v w/\VR ρ a v:=by
 unfold apart at h
 split at h
 ·rename_i d e
  split at h
  ·rename_i b
   split at h
   ·rename_i n hn
    split at h
    ·rename_i hl
     cases h
     have f:=c.length_eq
     refine⟨.agg ((vs.drop off).take n).toArray,?_,by simp only[VR];exact⟨_,rfl,(c.drop off).take n⟩⟩
     simp only[part,Sem.run_bind,hI.pb w e,b,Result.andThen_ok,if_true,hI.ca w hn,Sem.run_pure]
     simp
    ·cases h
   ·cases h
  ·rename_i b
   obtain⟨v,g,i⟩:=c.get off h
   exact⟨v,by simp[part,hI.pb w e,b,g],i⟩
 ·cases h
def Ks(eq:TypeId->AV->AV->Option Bool)(I:ba)(c d:List AV):List (TypeId×Nat)->Option Bool
 |[]=>M true
 |(t,o)::e=>(apart I t c o).bind λa=>(apart I t d o).bind λb=>(eq t a b).bind λr=>(Ks eq I c d e).map λs=>r&&s
def DK(eq:AV->AV->Option Bool)(I:ba)(e:TypeId)(n:Nat)(c d:List AV):List Nat->Option Bool
 |[]=>M true
 |i::is=>(apart I e c (i*n)).bind λa=>(apart I e d (i*n)).bind λb=>(eq a b).bind λr=>(DK eq I e n c d is).map λs=>r&&s
def xH(I:ba):Nat->TypeId->AV->AV->Option Bool
 |0,_,_,_=>b_
 |d+1,t,x,y=>
  match I.dI t,x,y with
  |some .bool,.bool a,.bool b=>M (a==b)
  |some (.int _),.int k a,.int c b=>if k=c then M (a==b)else b_
  |some .string,.str a,.str b=>M (a==b)
  |some (.pointer _),.nilPtr,.nilPtr=>M true
  |some (.pointer _),.ptr _ _ _ _,.nilPtr=>M false
  |some (.pointer s),.ptr l k e j,.ptr g c h i=>if l=g/\k*e+j=c*h+i then(I.size s).bind λ_=>M true else b_
  |some (.pointer _),.nilPtr,.ptr _ _ _ _=>M false
  |some (.pointer _),.addr _ _,.nilPtr=>M false
  |some (.pointer _),.fc _ _,.nilPtr=>M false
  |some (.pointer _),.nilPtr,.fc _ _=>M false
  |some (.interface _),.nilIface,.nilIface=>M true
  |some (.interface _),.nilIface,.iface _ _=>M false
  |some (.interface _),.iface _ _,.nilIface=>M false
  |some (.slice _),.aw,.aw=>M true
  |some (.slice _),.slice _ _ _ _ _ _,.aw=>M false
  |some (.slice _),.aw,.slice _ _ _ _ _ _=>M false
  |some (.struct _),.agg xs,.agg f=>
   match I.held t,I.fields t with
   |true,M o=>Ks (xH I d) I xs f o
   |_,_=>b_
  |some (.array n e),.agg xs,.agg f=>
   match I.size e with
   |some m=>DK (xH I d e) I e m xs f (List.range n)
   |none=>b_
  |_,_,_=>b_
def F8{I:ba}{P:Program}(hI:I.Ok P){d:Nat}{eq:TypeId->AV->AV->Option Bool}
  (c:∀t x y r,eq t x y=M r->∀ρ u v w,VR ρ x u->VR ρ y v->(Op.equalIn d t u v).run P w= .ok r w) {i j:List AV} {ρ:Env} {us vs:List Value} (k:aU ρ i us) (l:aU ρ j vs) (w:World):
  ∀(e:List Field)(r:Bool),(∀f∈e,f.name≠ "_")->Ks eq I i j (e.map λf=>(f.type,f.offset))=M r->(Op.eqFields d us.toArray vs.toArray e).run P w= .ok r w
 |[],r,_,h=>by simp only[List.map_nil,Ks,fE]at h;subst h;simp[Op.eqFields]
 |f::e,r,hn,h=>by
  simp only[List.map_cons,Ks,z,a_]at h
  obtain⟨a,m,b,n,p,o,q,s,rfl⟩:=h
  obtain⟨u,e1,r1⟩:=QI hI m k w
  obtain⟨v,B,C⟩:=QI hI n l w
  have D:=F8 hI c k l w e q Y s
  have E:=c _ _ _ _ o ρ u v w r1 C
  have g:f.name≠ "_" :=Y
  cases p<;>simp[Op.eqFields,g,e1,B,E,D]
def F9{I:ba}{P:Program}(hI:I.Ok P){d:Nat}{e:TypeId}{n:Nat}{eq:AV->AV->Option Bool}
  (c:∀x y r,eq x y=M r->∀ρ u v w,VR ρ x u->VR ρ y v->(Op.equalIn d e u v).run P w= .ok r w) {f g:List AV} {ρ:Env} {us vs:List Value} (j:aU ρ f us) (k:aU ρ g vs) (w:World):
  ∀(is:List Nat)(r:Bool),DK eq I e n f g is=M r->(Op.eqItems d e n us.toArray vs.toArray is).run P w= .ok r w
 |[],r,h=>by simp only[DK,fE]at h;subst h;simp[Op.eqItems]
 |i::is,r,h=>by
  simp only[DK,z,a_]at h
  obtain⟨a,l,b,m,p,o,q,s,rfl⟩:=h
  obtain⟨u,e1,r1⟩:=QI hI l j w
  obtain⟨v,t,B⟩:=QI hI m k w
  have C:=F9 hI c j k w is q s
  have D:=c _ _ _ o ρ u v w r1 B
  cases p<;>simp[Op.eqItems,e1,t,D,C]
def vh{I P}(hI:I.Ok P):∀(d)(t)(x y)(r),xH I d t x y=M r->∀ρ u v w,VR ρ x u->VR ρ y v->(Op.equalIn d t u v).run P w= .ok r w
 |0,_,_,_,_,h=>by simp[xH]at h
 |d+1,t,x,y,r,h=>by
  intro ρ u v w hx a
  unfold xH at h
  split at h
  case h_1 c=>cases h;simp only[VR]at hx a;subst hx a;simp[Op.equalIn,hI.aW w c]
  case h_2 c=>
   split at h
   ·rename_i E;cases h;simp only[VR]at hx a;subst hx a;simp[Op.equalIn,hI.aW w c,E]
   ·cases h
  case h_3 c=>cases h;simp only[VR]at hx a;subst hx a;simp[Op.equalIn,hI.aW w c,beq_toListBytes]
  case h_4 c=>cases h;simp only[VR]at hx a;subst hx a;simp[Op.equalIn,hI.aW w c]
  case h_5 c=>cases h;simp only[VR]at hx a;obtain⟨_,_,_,rfl⟩:=hx;subst a;simp[Op.equalIn,hI.aW w c]
  case h_6 s l k e j V W X Y c=>
   split at h
   ·rename_i F
    obtain⟨rfl,G⟩:=F
    simp only[z,fE]at h
    obtain⟨n,hn,rfl⟩:=h
    obtain⟨i,H,_⟩:=hI.size _ _ hn
    simp only[VR]at hx a
    obtain⟨b,N,J,rfl⟩:=hx
    obtain⟨Z,N',o,rfl⟩:=a
    rw[J]at o
    cases o
    rw[G]
    simp[Op.equalIn,hI.aW w c,sizeOf,typeInfo,H,run_sameAddr_same]
   ·cases h
  case h_7 c=>cases h;simp only[VR]at hx a;obtain⟨_,_,_,rfl⟩:=a;subst hx;simp[Op.equalIn,hI.aW w c]
  case h_8 c=>cases h;simp only[VR]at hx a;subst hx a;simp[Op.equalIn,hI.aW w c]
  case h_9 c=>cases h;simp only[VR]at hx a;obtain⟨_,_,_,rfl,_⟩:=hx;subst a;simp[Op.equalIn,hI.aW w c]
  case h_10 c=>cases h;simp only[VR]at hx a;obtain⟨_,_,_,rfl,_⟩:=a;subst hx;simp[Op.equalIn,hI.aW w c]
  case h_11 c=>cases h;simp only[VR]at hx a;subst hx a;simp[Op.equalIn,hI.aW w c]
  case h_12 c=>cases h;simp only[VR]at hx a;obtain⟨_,rfl,_⟩:=a;subst hx;simp[Op.equalIn,hI.aW w c]
  case h_13 c=>cases h;simp only[VR]at hx a;obtain⟨_,rfl,_⟩:=hx;subst a;simp[Op.equalIn,hI.aW w c]
  case h_14 c=>cases h;simp only[VR]at hx a;subst hx a;simp[Op.equalIn,hI.aW w c]
  case h_15 c=>cases h;simp only[VR]at hx a;obtain⟨_,_,_,_,_,rfl,_⟩:=hx;subst a;simp[Op.equalIn,hI.aW w c]
  case h_16 c=>cases h;simp only[VR]at hx a;obtain⟨_,_,_,_,_,rfl,_⟩:=a;subst hx;simp[Op.equalIn,hI.aW w c]
  case h_17 xs K c=>
   simp only[VR]at hx a
   obtain⟨us,rfl,f⟩:=hx
   obtain⟨vs,rfl,g⟩:=a
   split at h
   ·rename_i L O Q
    obtain⟨D,e1,rfl,R⟩:=hI.fields t L Q
    have ht:P.underlying t=M (.struct (P.fieldsOf t)):=by simp[Program.fieldsOf,e1]
    rw[run_equalIn_struct w d t _ _ ht (hI.held t O)]
    have:P.fieldsOf t=D:=by simp[Program.fieldsOf,e1]
    rw[this]
    exact F8 hI (λS p q B C=>vh hI d S p q B C) f g w D.toList r R h
   ·cases h
  case h_18 n e xs K c=>
   simp only[VR]at hx a
   obtain⟨us,rfl,f⟩:=hx
   obtain⟨vs,rfl,g⟩:=a
   split at h
   ·rename_i m T
    obtain⟨i,e1,U⟩:=hI.size e m T
    rw[run_equalIn_array w d _ _ (hI.dI t _ c) e1]
    have:P.cellsOf e=m:=by simp[Program.cellsOf,e1,U]
    rw[this]
    exact F9 hI (λp q B C=>vh hI d e p q B C) f g w _ r h
   ·cases h
  case h_19=>cases h
end
end Go.Sx
