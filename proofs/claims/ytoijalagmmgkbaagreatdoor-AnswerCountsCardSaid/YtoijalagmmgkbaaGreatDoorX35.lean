/- The proof of a statement of the seat, part 35. -/
import Derived.Test.YtoijalagmmgkbaaGreatDoorX34
import Derived.Test.YtoijalagmmgkbaaGreatDoorX33
set_option linter.all false
set_option linter.defProp false
set_option maxRecDepth 1000000
namespace Go.Sx
open Go
open Nat renaming blt->M,beq->b_,ble->p_,below->y_
open Decidable renaming decide->z
open Go.IntKind renaming i64->a_
open List renaming drop->c_,take->e_,range->g_,all->k_,length->v_
open Int renaming ofNat->d_,toNat->s_
open Classical renaming byContradiction->f_,axiomOfChoice->A_
open AV renaming int->h_,le->l_,str->o_,ptr->q_,ab->r_,bool->w_,any->x_,own->z_,bD->B_,addr->D_
open Option renaming some->i_,none->m_
open Tr renaming ofList->j_,bH->C_
open AH renaming bH->n_,get->u_
noncomputable section
def kR(q:Query)(x:ay):Int:=match gk q x with
 |false=>0
 |true=>if q.a=1 then 1 else if q.fl=7 then x.b else match jA q x with|true=>x.l|false=>jc (fT q x) (jQ q x)
def lJ(q:Query)(x:ay):Int:=match gk q x with
 |false=>0
 |true=>if q.a=1 then 1 else if q.fl=7 then x.b else match jA q x with|true=>x.h|false=>cG (fT q x) (jQ q x)
def Br(q:Query)(x:ay):Bool:=gk q x&&jA q x
def QP{q:Query}{x:ay}{k:Nat}{d:Int}(h:d∈NH q x k):qS q x d=true:=(List.mem_filter.1 h).2
def wX{q:Query}{x:ay}(a:eU q=true)(b:gk q x=true):0<jQ q x:=by
 obtain⟨d,c,f⟩:=QN a b
 have:d∈NH q x (3*(q.nw+2)):=by
  refine List.mem_filter.2 ⟨?_,c⟩
  have mk:∀i j:Nat,i<q.nw+2->j<3->d=cY q x i 2-1+(j:Int)->d∈(g_ (3*(q.nw+2))).map (rT q x):=λi j hi g e=>
   List.mem_map.2 ⟨3*i+j,List.mem_range.2 O,(rU q x i j g).trans e.symm⟩
  rcases f with h|⟨k,hk,h|h⟩
  ·refine mk q.nw 1 O O ?_
   unfold cY
   rw[if_neg O,if_pos A,if_pos A,h];omega
  ·refine mk k 1 O O ?_
   unfold cY
   rw[if_pos hk,h];omega
  ·refine mk k 2 O O ?_
   unfold cY
   rw[if_pos hk,h];omega
 exact List.length_pos_iff.2 (List.ne_nil_of_mem this)
def NJ(q:Query)(x:ay):an (q.nw+2) (λi=>bif M i q.nw then au (bG (au q.C)) i else e_ 3 (c_ (0+(i-q.nw)*3) [.int a_ 0,.int a_ 0,.int a_ x.l,.int a_ 0,.int a_ 0,.int a_ x.h])) (au (cY q x)):=λi hi σ=>by
 show bt.le σ (bif M i q.nw then au (bG (au q.C)) i else e_ 3 (c_ (0+(i-q.nw)*3) [.int a_ 0,.int a_ 0,.int a_ x.l,.int a_ 0,.int a_ 0,.int a_ x.h])) (au (cY q x) i)
 by_cases h:i<q.nw
 ·rw[eV h]
  refine⟨⟨rfl,?_⟩,⟨rfl,?_⟩,⟨rfl,?_⟩,trivial⟩<;>(unfold cY;rw[if_pos h];rfl)
 ·rw[js h]
  by_cases e:i=q.nw
  ·subst e
   rw[show 0+(q.nw-q.nw)*3=0 by omega]
   refine⟨⟨rfl,?_⟩,⟨rfl,?_⟩,⟨rfl,?_⟩,trivial⟩<;>(unfold cY;simp)
  ·have:i=q.nw+1:=by omega
   subst this
   rw[show 0+(q.nw+1-q.nw)*3=3 by omega]
   refine⟨⟨rfl,?_⟩,⟨rfl,?_⟩,⟨rfl,?_⟩,trivial⟩<;>(unfold cY;rw[if_neg h];simp)
def Fw{q:Query}{x:ay}(c:gk q x=true)(a:jA q x=false):0<q.nw:=by
 refine Nat.pos_of_ne_zero λe=>?_
 have b:dC q x=⟨true,x.l,x.h,0,λ_=>0⟩:=by unfold dC;rw[e];rfl
 unfold jA lT fy rL at a
 rw[b]at a
 simp at a
def NK{q:Query}{x:ay}(e:aI 3 q.nw (au q.C)=true)(f:aI 1 q.ng (aR q.G)=true)(d:eU q=true)(hx:bB x=true):
  af PP II 92 [.agg (aY q),.agg (aF x)] HO (.ret (.bK [.agg [.int a_ (kR q x),.int a_ (lJ q x),.bool (Br q x)],.bool (gk q x)]) HO):=by
 have hn:=(fQ d).1
 refine CB (ks:=[WV,mg,G5,SJ,Mo]) (T:=[(8001,36,C1 q x (jA q x) (cY q x) (λi=>ib q x (3*i.toNat)) (fT q x) 0,xZ q x (jA q x) (jQ q x) (fT q x))]) (λσ=>⟨⟨⟨rfl,rfl⟩,⟨rfl,rfl⟩,rfl,trivial⟩,rfl,trivial⟩) ?_
 rw[ND _ _ _ _ _ _ _ _ A A A,e,f,show eU _=true from(oH q).trans d,hx,show gk ⟨q.nw,bG (au q.C),q.ng,λj=>q.G j,q.a,q.fl,q.nu,q.de,q.top⟩ x=gk q x from Jy q x,show jA ⟨q.nw,bG (au q.C),q.ng,λj=>q.G j,q.a,q.fl,q.nu,q.de,q.top⟩ x=jA q x from Jz q x]
 refine cC _ _ A (cC _ _ A (cC _ _ A ?_))
 have g:=NJ q x
 unfold kR lJ Br
 cases hp:gk q x with
 |false=>exact⟨rfl,rfl⟩
 |true=>
  have k:=wX d hp
  have m:jQ q x<=3*(q.nw+2):=NI q x _
  cases l:jA q x with
  |true=>
   show ah (z (q.a=1)) _ (ah (z (q.fl=7)) _ _)
   refine Zg (λh=>?_) λh=>Zg (λc=>?_) λc=>?_
   ·rw[if_pos h,if_pos h];exact⟨rfl,rfl⟩
   ·rw[if_neg h,if_pos c,if_neg h,if_pos c];exact⟨rfl,rfl⟩
   ·rw[if_neg h,if_neg c,if_neg h,if_neg c];exact⟨rfl,rfl⟩
  |false=>
   have lp:=Fv q x false e f d hx
   have nw:=Fw hp l
   have a1:((k_ (List.range.loop (jQ q x) []) λi=>true)&&z (jQ q x<=jQ q x))=true:=by rw[C2 λ_=>rfl,bW (dw _)];rfl
   have a2:((k_ (List.range.loop (jQ q x) []) λi=>true)&&p_ (jQ q x) 1000000000000&&M 0 (jQ q x))=true:=by rw[C2 λ_=>rfl,kV O,eV k];rfl
   refine cC _ _ (by rw[eV nw,kV (O:q.nw<=1000)];rfl) (cC _ _ (bW A) (cC _ _ (bW A) (cC _ _ (by rw[bW (dw _),bW (O:(q.nw+2)*24<=140737488355328)];rfl) ⟨lp,?_⟩)))
   have b:ib q x (3*(0:Int).toNat)=0:=rfl
   generalize jQ q x=n at*
   generalize fT q x=V at*
   refine YG b (YG A ⟨g,rfl,?_⟩)
   refine Zf A (Zf A (Zf A (Zf A (Zf A (Zf A (Zf A (Zf A (Zf A (Zf A (YG A ⟨bC _ _,YG A ⟨bO _ _,Zf A (Zf A (Zi A (Zi A (Zf A ⟨aZ,YG b (Zf A (YG A ⟨rfl,?_⟩))⟩))))⟩⟩))))))))))
   refine cC _ _ a1 (cC _ _ a2 (cC _ _ a1 (cC _ _ a2 ?_)))
   refine Zg (λh=>?_) λh=>Zg (λc=>?_) λc=>?_
   ·rw[if_pos h,if_pos h];exact⟨rfl,rfl⟩
   ·rw[if_neg h,if_pos c,if_neg h,if_pos c];exact⟨rfl,rfl⟩
   ·rw[if_neg h,if_neg c,if_neg h,if_neg c];exact⟨rfl,rfl⟩
def qT(q:Query)(cs:List AV):Bool:=match cs with
 |[.ab nw 3 f,.ab ng 1 g,.int a_ a,.int a_ fl,.str nu,.str de,.int a_ top]=>b_ nw q.nw&&b_ ng q.ng&&((g_ nw).all λj=>match f j with|[.int a_ x,.int a_ y,.int a_ b]=>z (x=q.C j 0)&&z (y=q.C j 1)&&z (b=q.C j 2)|_=>false)&&((g_ ng).all λj=>match g j with|[.int a_ x]=>z (x=q.G j)|_=>false)&&z (a=q.a)&&z (fl=q.fl)&&z (nu=q.nu)&&z (de=q.de)&&z (top=q.top)
 |_=>false
def mi{q:Query}{cs:List AV}(h:qT q cs=true):l_ (λl=>l) (.agg cs) (.agg (aY q))/\∀σ,B_ σ (.agg cs)= .agg cs:=by
 unfold qT at h
 split at h
 ·simp only[bf,bn,List.all_eq_true,List.mem_range]at h
  obtain⟨⟨⟨⟨⟨⟨⟨⟨b,c⟩,d⟩,f⟩,g⟩,j⟩,k⟩,m⟩,n⟩:=h
  have b:=dE b
  have c:=dE c
  refine⟨⟨⟨b,rfl,λi hi=>?_⟩,⟨c,rfl,λi hi=>?_⟩,⟨rfl,g⟩,⟨rfl,j⟩,k,m,⟨rfl,n⟩,trivial⟩,λ_=>rfl⟩
  ·have:=d i hi
   split at this
   ·rename_i x y a e
    simp only[bf,bn]at this
    rw[e]
    exact⟨⟨rfl,this.1.1⟩,⟨rfl,this.1.2⟩,⟨rfl,this.2⟩,trivial⟩
   ·cases this
  ·have:=f i hi
   split at this
   ·rename_i x e
    rw[e]
    exact⟨⟨rfl,pT this⟩,trivial⟩
   ·cases this
 ·cases h
def jv(q:Query):qT q [.ab q.nw 3 (au q.C),.ab q.ng 1 (aR q.G),.int a_ q.a,.int a_ q.fl,.str q.nu,.str q.de,.int a_ q.top]=true:=by
 unfold qT
 have c:((g_ q.nw).all λj=>match au q.C j with|[.int a_ x,.int a_ y,.int a_ b]=>z (x=q.C j 0)&&z (y=q.C j 1)&&z (b=q.C j 2)|_=>false)=true:=List.all_eq_true.2 λj _=>by simp[au]
 have d:((g_ q.ng).all λj=>match aR q.G j with|[.int a_ x]=>z (x=q.G j)|_=>false)=true:=List.all_eq_true.2 λj _=>by simp[aR]
 simp only[c,d,ni,decide_true,Bool.and_self]
def ct(q:Query):Bool:=aI 3 q.nw (au q.C)&&aI 1 q.ng (aR q.G)&&eU q
def eb{q:Query}(h:ct q=true):aI 3 q.nw (au q.C)=true/\aI 1 q.ng (aR q.G)=true/\eU q=true:=by
 unfold ct at h
 simp only[bf]at h
 exact⟨h.1.1,h.1.2,h.2⟩
def jW(q:Query):aC PP II:=aC.CC 92
 (λX args b=>match args with
  |[.agg cs,.agg ds]=>match iV ds with
   |some x=>X.ak (qT q cs&&ct q&&bB x) (b (.bK [.agg [.int a_ (kR q x),.int a_ (lJ q x),.bool (Br q x)],.bool (gk q x)]))
   |_=>X.fail
  |_=>X.fail)
 λX sem hX args b h=>by
  split at h
  ·split at h
   ·rename_i x hx
    obtain⟨a,c⟩:=hX.ak _ _ h
    simp only[bf]at a
    cases fK hx
    obtain⟨r1,d,e⟩:=eb a.1.2
    obtain⟨l1,l2⟩:=mi a.1.1
    refine⟨_,c,λ_=>rfl,λσ=>?_,af.dA (NK r1 d e a.2) l1 (uY x)⟩
    show [B_ σ (.agg _),_]=_
    rw[l2];rfl
   ·exact zR
  ·exact zR
def qj(q:Query)(g:Nat):aC PP II:=aC.CC 30
 (λX args b=>match args with
  |[.agg cs,.agg ds]=>match iV ds with
   |some x=>X.ak (qT q cs&&ct q&&bB x&&b_ q.ng g) (b (.bK [.ab g 1 (ae (aj q x)),.int a_ 0]))
   |_=>X.fail
  |_=>X.fail)
 λX sem hX args b h=>by
  split at h
  ·split at h
   ·rename_i x hx
    obtain⟨a,c⟩:=hX.ak _ _ h
    simp only[bf]at a
    cases fK hx
    obtain⟨r1,d,e⟩:=eb a.1.1.2
    obtain⟨l1,l2⟩:=mi a.1.1.1
    cases dE a.2
    refine⟨_,c,λ_=>rfl,λσ=>?_,af.dA (Uo r1 d e a.1.2) l1 (uY x)⟩
    show [B_ σ (.agg _),_]=_
    rw[l2];rfl
   ·exact zR
  ·exact zR
def tG(k:Nat)(F:Nat->ay)(out:AV)(i:Int):Tr AV:=j_ [(2,.ptr 14 0 0 0),(5,.map (i_ 15)),(6,out),(15,cm k F),(16,.int a_ (d_ k)),(17,.int a_ i)]
def hG(q:Query)(n:Nat)(a:List (Nat×ai)):AH:=hQ n ([(14,.cells (aY q) (.ty 32))]++a)
def eW(b:Nat->Nat)(i:Nat):List AV:=[.addr (b i) 0]
abbrev kg(ks:List (aC PP II))(f key n0:Nat)(s b:St)(P:St->Prop):Prop :=
 uA ks (mG PP II []) 1000 false (.code (aD II f key)) s {n:=λa=>mF n0 a b (P a),x:=λ_ _=>False,g:=λ_ _=>False,r:=λ_=>False,p:=λ_ _=>False}
def C4(n:Nat)(s:St):Prop:=match cR s.t 6 with
 | .own L _ _=>match s.H.get L with
  | .rows _ _ f _=>match s.H.get 15 with
   | .cT _ _ _ (i_ (_,.ptr g k e j))=>f n=[.ptr g k e j]
   |_=>False
  |_=>False
 |_=>False
def ui(q:Query)(k:Nat)(F:Nat->ay)(a b c:Nat)(out:AV)(i:Int):Bool->St
 |false=>{t:=tG k F out i,nt:=86,H:=hG q 17 [],df:=[]}
 |true=>{t:=tG k F out (i+1),nt:=86,H:=hG q 17 [],df:=[]}
def QQ(q:Query)(k n:Nat)(F:Nat->ay)(K:Nat->List Int)(b:Nat->Nat)(ks:List Int)(g:Nat)(W:Nat->Int)(lo hi:Int)(c:Bool)(i:Int):Bool->St
 |false=>{t:=tG k F (.own 16 n 1) i,nt:=86,H:=hG q 17 [(15,.cT n K (λj=> .addr (b j) 0) m_),(16,.rows n 1 (eW b) (.ty 89))],df:=[]}
 |true=>{t:=tG k F (.own 20 (n+1) 1) (i+1),nt:=86,H:=hG q 21 [(15,.cT (n+1) (cZ n K ks) (λj=>bif b_ j n then .any else .addr (b j) 0) (i_ (n,.ptr 17 0 0 0))),(17,.cells [.ab g 1 (ae W),.own 18 1 3,.own 19 1 1] (.ty 94)),(18,.rows 1 3 (λ_=>[.int a_ lo,.int a_ hi,.bool c]) (.ty 99)),(19,.rows 1 1 (λ_=>[.int a_ i]) (.ty 3)),(20,.rows (n+1) 1 (λj=>bif b_ j n then [.any]else eW b j) (.ty 89))],df:=[]}
def Fx(q:Query)(k n:Nat)(F:Nat->ay)(K:Nat->List Int)(b:Nat->Nat)(j g:Nat)(W:Nat->Int)(m:Nat)(S T:Nat->List AV)(a c:Nat->List AV)(i:Int):Bool->St
 |false=>{t:=tG k F (.own 16 n 1) i,nt:=86,H:=hG q 20 [(15,.cT n K (λj=> .addr (b j) 0) (i_ (j,.ptr 17 0 0 0))),(16,.rows n 1 (eW b) (.ty 89)),(17,.cells [.ab g 1 (ae W),.own 18 m 3,.own 19 m 1] (.ty 94)),(18,.rows m 3 S (.ty 99)),(19,.rows m 1 T (.ty 3))],df:=[]}
 |true=>{t:=tG k F (.own 16 n 1) (i+1),nt:=86,H:=hG q 22 [(15,.cT n K (λj=> .addr (b j) 0) (i_ (j,.ptr 17 0 0 0))),(16,.rows n 1 (eW b) (.ty 89)),(17,.cells [.ab g 1 (ae W),.own 20 (m+1) 3,.own 21 (m+1) 1] (.ty 94)),(20,.rows (m+1) 3 a (.ty 99)),(21,.rows (m+1) 1 c (.ty 3))],df:=[]}
def NL(q:Query)(k:Nat)(F:Nat->ay)(a b c:Nat)(i:Int)(l n:Nat)(Q:Prop){d}(e:d=[r_ q.nw 3 (au q.C),r_ q.ng 1 (aR q.G),h_ a_ q.a,h_ a_ q.fl,o_ q.nu,o_ q.de,h_ a_ q.top]):(kg [jW q,qj q 0] 40 4001 17 (ui q k F a b c (.own 16 n 1) i false) (ui q k F a b c (.own 16 n 1) i true) (λ_=>Q))=(ah (z (i<d_ k)) (B (z (0<=i)&&z (i<d_ k)) (B (qT q d&&ct q&&bB (F i.toNat)) (ah (!gk q (F i.toNat)) (B (aN a_ (i+1)) (zyN q.nw (zyR q.nw (au q.C) (zyN q.ng (zyR q.ng (aR q.G) (zyI q.a (zyI q.fl (zyB q.nu (zyB q.de (zyI q.top (zyB [48] (zyB [49] (zyR 5 aA (zyN k ((an k (λi=>aF (F i)) λi=>aF (F i))/\zyI (i+1) (zyI (d_ k) (zyN n Q))))))))))))))))) (B (qT q d&&ct q&&bB (F i.toNat)&&b_ q.ng 0) False)))) False):=by subst_vars;kernel_rfl
def QR(q:Query)(k n:Nat)(F:Nat->ay)(K:Nat->List Int)(b:Nat->Nat)(i:Int){d}(g:d=[r_ q.nw 3 (au q.C),r_ q.ng 1 (aR q.G),h_ a_ q.a,h_ a_ q.fl,o_ q.nu,o_ q.de,h_ a_ q.top]):(kg [jW q,qj q q.ng] 40 4001 17 (QQ q k n F K b [bif M 0 q.ng then aj q (F i.toNat) 0 else 0,bif M 1 q.ng then aj q (F i.toNat) 1 else 0,bif M 2 q.ng then aj q (F i.toNat) 2 else 0] q.ng (aj q (F i.toNat)) (kR q (F i.toNat)) (lJ q (F i.toNat)) (Br q (F i.toNat)) i false) (QQ q k n F K b [bif M 0 q.ng then aj q (F i.toNat) 0 else 0,bif M 1 q.ng then aj q (F i.toNat) 1 else 0,bif M 2 q.ng then aj q (F i.toNat) 2 else 0] q.ng (aj q (F i.toNat)) (kR q (F i.toNat)) (lJ q (F i.toNat)) (Br q (F i.toNat)) i true) (C4 n))=(ah (z (i<d_ k)) (B (z (0<=i)&&z (i<d_ k)) (B (qT q d&&ct q&&bB (F i.toNat)) (ah (!gk q (F i.toNat)) (B (aN a_ (i+1)) (ax n (n+1) ((an n (eW b) λj=>bif b_ j n then [x_]else eW b j)/\ax 1 0 (ax 1 0 False)))) (B (qT q d&&ct q&&bB (F i.toNat)&&b_ q.ng q.ng) (B (p_ q.ng 3&&k_ (g_ q.ng) λi=>true) (B (ln n K 3&&Kv n K [bif M 0 q.ng then aj q (F i.toNat) 0 else 0,bif M 1 q.ng then aj q (F i.toNat) 1 else 0,bif M 2 q.ng then aj q (F i.toNat) 2 else 0]) (B (ln n K 3&&Kv n K [bif M 0 q.ng then aj q (F i.toNat) 0 else 0,bif M 1 q.ng then aj q (F i.toNat) 1 else 0,bif M 2 q.ng then aj q (F i.toNat) 2 else 0]) (B (ln (n+1) (cZ n K [bif M 0 q.ng then aj q (F i.toNat) 0 else 0,bif M 1 q.ng then aj q (F i.toNat) 1 else 0,bif M 2 q.ng then aj q (F i.toNat) 2 else 0]) 3&&uI (n+1) (cZ n K [bif M 0 q.ng then aj q (F i.toNat) 0 else 0,bif M 1 q.ng then aj q (F i.toNat) 1 else 0,bif M 2 q.ng then aj q (F i.toNat) 2 else 0]) [bif M 0 q.ng then aj q (F i.toNat) 0 else 0,bif M 1 q.ng then aj q (F i.toNat) 1 else 0,bif M 2 q.ng then aj q (F i.toNat) 2 else 0] n) (B (z (n<=n)&&true&&true&&z ((n+1)*8<=140737488355328)&&true) (B (ln (n+1) (cZ n K [bif M 0 q.ng then aj q (F i.toNat) 0 else 0,bif M 1 q.ng then aj q (F i.toNat) 1 else 0,bif M 2 q.ng then aj q (F i.toNat) 2 else 0]) 3&&uI (n+1) (cZ n K [bif M 0 q.ng then aj q (F i.toNat) 0 else 0,bif M 1 q.ng then aj q (F i.toNat) 1 else 0,bif M 2 q.ng then aj q (F i.toNat) 2 else 0]) [bif M 0 q.ng then aj q (F i.toNat) 0 else 0,bif M 1 q.ng then aj q (F i.toNat) 1 else 0,bif M 2 q.ng then aj q (F i.toNat) 2 else 0] n) (B (ln (n+1) (cZ n K [bif M 0 q.ng then aj q (F i.toNat) 0 else 0,bif M 1 q.ng then aj q (F i.toNat) 1 else 0,bif M 2 q.ng then aj q (F i.toNat) 2 else 0]) 3&&uI (n+1) (cZ n K [bif M 0 q.ng then aj q (F i.toNat) 0 else 0,bif M 1 q.ng then aj q (F i.toNat) 1 else 0,bif M 2 q.ng then aj q (F i.toNat) 2 else 0]) [bif M 0 q.ng then aj q (F i.toNat) 0 else 0,bif M 1 q.ng then aj q (F i.toNat) 1 else 0,bif M 2 q.ng then aj q (F i.toNat) 2 else 0] n) (B (ln (n+1) (cZ n K [bif M 0 q.ng then aj q (F i.toNat) 0 else 0,bif M 1 q.ng then aj q (F i.toNat) 1 else 0,bif M 2 q.ng then aj q (F i.toNat) 2 else 0]) 3&&uI (n+1) (cZ n K [bif M 0 q.ng then aj q (F i.toNat) 0 else 0,bif M 1 q.ng then aj q (F i.toNat) 1 else 0,bif M 2 q.ng then aj q (F i.toNat) 2 else 0]) [bif M 0 q.ng then aj q (F i.toNat) 0 else 0,bif M 1 q.ng then aj q (F i.toNat) 1 else 0,bif M 2 q.ng then aj q (F i.toNat) 2 else 0] n) (B (z ((bif M 0 q.ng then aj q (F i.toNat) 0 else 0)=bif M 0 q.ng then aj q (F i.toNat) 0 else 0)&&(z ((bif M 1 q.ng then aj q (F i.toNat) 1 else 0)=bif M 1 q.ng then aj q (F i.toNat) 1 else 0)&&(z ((bif M 2 q.ng then aj q (F i.toNat) 2 else 0)=bif M 2 q.ng then aj q (F i.toNat) 2 else 0)&&true))) (B (ln (n+1) (cZ n K [bif M 0 q.ng then aj q (F i.toNat) 0 else 0,bif M 1 q.ng then aj q (F i.toNat) 1 else 0,bif M 2 q.ng then aj q (F i.toNat) 2 else 0]) 3&&uI (n+1) (cZ n K [bif M 0 q.ng then aj q (F i.toNat) 0 else 0,bif M 1 q.ng then aj q (F i.toNat) 1 else 0,bif M 2 q.ng then aj q (F i.toNat) 2 else 0]) [bif M 0 q.ng then aj q (F i.toNat) 0 else 0,bif M 1 q.ng then aj q (F i.toNat) 1 else 0,bif M 2 q.ng then aj q (F i.toNat) 2 else 0] n) (B (ln (n+1) (cZ n K [bif M 0 q.ng then aj q (F i.toNat) 0 else 0,bif M 1 q.ng then aj q (F i.toNat) 1 else 0,bif M 2 q.ng then aj q (F i.toNat) 2 else 0]) 3&&uI (n+1) (cZ n K [bif M 0 q.ng then aj q (F i.toNat) 0 else 0,bif M 1 q.ng then aj q (F i.toNat) 1 else 0,bif M 2 q.ng then aj q (F i.toNat) 2 else 0]) [bif M 0 q.ng then aj q (F i.toNat) 0 else 0,bif M 1 q.ng then aj q (F i.toNat) 1 else 0,bif M 2 q.ng then aj q (F i.toNat) 2 else 0] n) (B (ln (n+1) (cZ n K [bif M 0 q.ng then aj q (F i.toNat) 0 else 0,bif M 1 q.ng then aj q (F i.toNat) 1 else 0,bif M 2 q.ng then aj q (F i.toNat) 2 else 0]) 3&&uI (n+1) (cZ n K [bif M 0 q.ng then aj q (F i.toNat) 0 else 0,bif M 1 q.ng then aj q (F i.toNat) 1 else 0,bif M 2 q.ng then aj q (F i.toNat) 2 else 0]) [bif M 0 q.ng then aj q (F i.toNat) 0 else 0,bif M 1 q.ng then aj q (F i.toNat) 1 else 0,bif M 2 q.ng then aj q (F i.toNat) 2 else 0] n) (B (z ((bif M 0 q.ng then aj q (F i.toNat) 0 else 0)=bif M 0 q.ng then aj q (F i.toNat) 0 else 0)&&(z ((bif M 1 q.ng then aj q (F i.toNat) 1 else 0)=bif M 1 q.ng then aj q (F i.toNat) 1 else 0)&&(z ((bif M 2 q.ng then aj q (F i.toNat) 2 else 0)=bif M 2 q.ng then aj q (F i.toNat) 2 else 0)&&true))) (B (aN a_ (i+1)) (zyN (n+1) ((an (n+1) (λi=>bif M i n then eW b i else e_ 1 (c_ (0+(i-n)*1) [q_ 20 0 0 0])) λj=>bif b_ j n then [x_]else eW b j)/\(an 1 (fW [h_ a_ i] 1) λx=>[h_ a_ i])/\(an 1 (fW [h_ a_ (kR q (F i.toNat)),h_ a_ (lJ q (F i.toNat)),w_ (Br q (F i.toNat))] 3) λx=>[h_ a_ (kR q (F i.toNat)),h_ a_ (lJ q (F i.toNat)),w_ (Br q (F i.toNat))])/\zyN q.ng (zyR q.ng (ae (aj q (F i.toNat))) (zyN (n+1) ((∀(c:Nat),c<n+1->cZ n K [bif M 0 q.ng then aj q (F i.toNat) 0 else 0,bif M 1 q.ng then aj q (F i.toNat) 1 else 0,bif M 2 q.ng then aj q (F i.toNat) 2 else 0] c=cZ n K [bif M 0 q.ng then aj q (F i.toNat) 0 else 0,bif M 1 q.ng then aj q (F i.toNat) 1 else 0,bif M 2 q.ng then aj q (F i.toNat) 2 else 0] c/\∀(σ:Nat->Nat),l_ σ (nz n (λj=>D_ (b j) 0) (q_ 20 0 0 0) c) (bif b_ c n then x_ else D_ (b c) 0))/\zyN n (zyN q.nw (zyR q.nw (au q.C) (zyN q.ng (zyR q.ng (aR q.G) (zyI q.a (zyI q.fl (zyB q.nu (zyB q.de (zyI q.top (zyB [48] (zyB [49] (zyR 5 aA (zyN k ((an k (λi=>aF (F i)) λi=>aF (F i))/\zyI (i+1) (zyI (d_ k) (zyN (n+1) ((bif M n n then eW b n else Nat.rec (motive:=λx=>y_ (motive:=λx=>List AV->List AV) x->List AV) (λx=>[]) (λe f=>List.casesOn (motive:=λx=>y_ (motive:=λx=>List AV->List AV) (e+1)->List AV) (c_ (0+(n-n)*1) [q_ 20 0 0 0]) (λx=>[]) λhead tail x=>head::x.1 tail) 1 ⟨λx=>[],PUnit.unit⟩)=[q_ 20 0 0 0])))))))))))))))))))))))))))))))))))))))) False):=by subst_vars;kernel_rfl
def QS(q:Query)(k n:Nat)(F:Nat->ay)(K:Nat->List Int)(b:Nat->Nat)(j m:Nat)(W:Nat->Int)(S T f g:Nat->List AV)(i:Int)(Q:Prop){d}(h:d=(zyN n (zyR n (eW b) (zyN n ((∀(i:Nat),i<n->K i=K i/\∀(σ:Nat->Nat),b i=b i/\0=0)/\zyN j (zyN q.nw (zyR q.nw (au q.C) (zyN q.ng (zyR q.ng (aR q.G) (zyI q.a (zyI q.fl (zyB q.nu (zyB q.de (zyI q.top (zyB [48] (zyB [49] (zyR 5 aA (zyN k ((an k (λi=>aF (F i)) λi=>aF (F i))/\zyI (i+1) (zyI (d_ k) (zyN n Q))))))))))))))))))))){e}(l:e=[r_ q.nw 3 (au q.C),r_ q.ng 1 (aR q.G),h_ a_ q.a,h_ a_ q.fl,o_ q.nu,o_ q.de,h_ a_ q.top]):(kg [jW q,qj q q.ng] 40 4001 20 (Fx q k n F K b j q.ng W m S T f g i false) (Fx q k n F K b j q.ng W m S T f g i true) (λ_=>Q))=(ah (z (i<d_ k)) (B (z (0<=i)&&z (i<d_ k)) (B (qT q e&&ct q&&bB (F i.toNat)) (ah (!gk q (F i.toNat)) (B (aN a_ (i+1)) (ax m (m+1) (an m T g/\ax m (m+1) (an m S f/\zyN q.ng (zyR q.ng (ae W) (ax m (m+1) (ax m (m+1) d))))))) (B (qT q e&&ct q&&bB (F i.toNat)&&b_ q.ng q.ng) (B (p_ q.ng 3&&k_ (g_ q.ng) λi=>true) (B (ln n K 3&&uI n K [bif M 0 q.ng then aj q (F i.toNat) 0 else 0,bif M 1 q.ng then aj q (F i.toNat) 1 else 0,bif M 2 q.ng then aj q (F i.toNat) 2 else 0] j) (B (ln n K 3&&uI n K [bif M 0 q.ng then aj q (F i.toNat) 0 else 0,bif M 1 q.ng then aj q (F i.toNat) 1 else 0,bif M 2 q.ng then aj q (F i.toNat) 2 else 0] j) (B (ln n K 3&&uI n K [bif M 0 q.ng then aj q (F i.toNat) 0 else 0,bif M 1 q.ng then aj q (F i.toNat) 1 else 0,bif M 2 q.ng then aj q (F i.toNat) 2 else 0] j) (B (z (m<=m)&&true&&true&&z ((m+1)*24<=140737488355328)&&true) (B (ln n K 3&&uI n K [bif M 0 q.ng then aj q (F i.toNat) 0 else 0,bif M 1 q.ng then aj q (F i.toNat) 1 else 0,bif M 2 q.ng then aj q (F i.toNat) 2 else 0] j) (B (z ((bif M 0 q.ng then aj q (F i.toNat) 0 else 0)=bif M 0 q.ng then aj q (F i.toNat) 0 else 0)&&(z ((bif M 1 q.ng then aj q (F i.toNat) 1 else 0)=bif M 1 q.ng then aj q (F i.toNat) 1 else 0)&&(z ((bif M 2 q.ng then aj q (F i.toNat) 2 else 0)=bif M 2 q.ng then aj q (F i.toNat) 2 else 0)&&true))) (B (ln n K 3&&uI n K [bif M 0 q.ng then aj q (F i.toNat) 0 else 0,bif M 1 q.ng then aj q (F i.toNat) 1 else 0,bif M 2 q.ng then aj q (F i.toNat) 2 else 0] j) (B (ln n K 3&&uI n K [bif M 0 q.ng then aj q (F i.toNat) 0 else 0,bif M 1 q.ng then aj q (F i.toNat) 1 else 0,bif M 2 q.ng then aj q (F i.toNat) 2 else 0] j) (B (z (m<=m)&&true&&true&&z ((m+1)*8<=140737488355328)&&true) (B (ln n K 3&&uI n K [bif M 0 q.ng then aj q (F i.toNat) 0 else 0,bif M 1 q.ng then aj q (F i.toNat) 1 else 0,bif M 2 q.ng then aj q (F i.toNat) 2 else 0] j) (B (z ((bif M 0 q.ng then aj q (F i.toNat) 0 else 0)=bif M 0 q.ng then aj q (F i.toNat) 0 else 0)&&(z ((bif M 1 q.ng then aj q (F i.toNat) 1 else 0)=bif M 1 q.ng then aj q (F i.toNat) 1 else 0)&&(z ((bif M 2 q.ng then aj q (F i.toNat) 2 else 0)=bif M 2 q.ng then aj q (F i.toNat) 2 else 0)&&true))) (B (aN a_ (i+1)) (zyN (m+1) (an (m+1) (λc=>bif M c m then T c else e_ 1 (c_ (0+(c-m)*1) [h_ a_ i])) g/\zyN (m+1) (an (m+1) (λc=>bif M c m then S c else e_ 3 (c_ (0+(c-m)*3) [h_ a_ (kR q (F i.toNat)),h_ a_ (lJ q (F i.toNat)),w_ (Br q (F i.toNat))])) f/\zyN q.ng (zyR q.ng (ae W) (zyN (m+1) (zyN (m+1) d))))))))))))))))))))))) False):=by subst_vars;kernel_rfl
def AH.C5(N:Nat)(f:Nat->ai):AH:={n:=N,t:=(g_ N).foldl (λt i=>t.set i (f i)) .e}
def y2(f:Nat->ai)(l:Nat):∀N,((g_ N).foldl (λt i=>t.set i (f i)) (.e:Tr ai)).get l=if l<N then i_ (f l)else m_
 |0=>rfl
 |N+1=>by
  rw[List.range_succ,List.foldl_append]
  show(Tr.set _ N (f N)).get l=_
  rw[C_,y2 f l N]
  by_cases h:l=N
  ·subst h;rw[if_pos A,if_pos O]
  ·rw[if_neg h]
   by_cases a:l<N
   ·rw[if_pos a,if_pos O]
   ·rw[if_neg a,if_neg O]
def AH.zr(N:Nat)(f:Nat->ai)(l:Nat):(AH.C5 N f).get l=if l<N then f l else .dead:=by
 unfold AH.C5 u_
 simp only[y2]
 by_cases h:l<N
 ·rw[if_pos h,if_pos h]
 ·rw[if_neg h,if_neg h]
def td{ks:List (aC PP II)}{f key n0:Nat}{s C:St}{Q:St->Prop}(h:kg ks f key n0 s C Q){SB:St}{σ:Nat->Nat}(ht:∀i,cR SB.t i=(cR s.t i).bD σ)(o:SB.nt=s.nt)(k:s.df=[]/\SB.df=[])
  (ro:Option Nat) (n:Nat) (c:fw) (ρ:Env) (a:Act) (w:World) (q:ro=m_) (hG:c.G=II.G) (F:Sub c.G σ s.H SB.H) (m:cA c ρ SB a w):
  (aD II f key).wpIn (WF ro) n PP (λx a1 D=>x= .normal/\∃d j,St.Le n0 d C/\Q d/\cA (c.iT ρ s.H SB.H σ w) j d a1 D) a w:=by
 obtain⟨e,l,I⟩:=nH iw ks (bm PP II []) 1000 false _ _ _ h
 have u:cA (c.iT ρ s.H SB.H σ w) (ρ.fC σ) s a w:=by
  refine⟨⟨m.tmp.1.trans o,λi=>?_⟩,m.heap.iT F,?_⟩
  ·have:=m.tmp.2 i
   rw[ht]at this
   exact VR.gR _ _ this
  ·have:=m.df
   rw[k.2]at this
   rw[k.1]
   exact this
 have J:(aD II f key).wpIn (WF ro) n PP (e.post (c.iT ρ s.H SB.H σ w) (ρ.fC σ)) a w:=I ro n (c.iT ρ s.H SB.H σ w) (ρ.fC σ) a w (λ_=>q) hG u
 refine wpIn_mono J λx a1 D E=>?_
 cases e with
 |n d=>
  cases x with
  |normal=>
   obtain⟨j,_,y⟩:=E
   obtain⟨k1,k2⟩:=mF.ok (K:=Q d) l
   exact⟨rfl,d,j,k1,k2,y⟩
  |_=>exact E.elim
 |x b d=>exact(l:False).elim
 |g b d=>exact(l:False).elim
 |r d=>exact(l:False).elim
 |p v d=>exact(l:False).elim
def pJ{c:fw}{ρ:Env}{SB:St}{a:Act}{w:World}{s:St}{σ:Nat->Nat}(o:cA c ρ SB a w)(p:Sub c.G σ s.H SB.H){d:St}{b:Env}{a1:Act}{k:World}(g:cA (c.iT ρ s.H SB.H σ w) b d a1 k){SB':St}(t:Eb σ s.H d.H SB.H SB'.H)(ht:∀i,cR SB'.t i=(cR d.t i).bD σ)(h:SB'.nt=d.nt)(f:d.df=[]/\SB'.df=[]):
  ∃ρ',Ext ρ ρ'/\(∀l,ρ' (σ l)=b l)/\cA c ρ' SB' a1 k:=by
 obtain⟨hx,m,j⟩:=o.heap.KY p g.heap t
 refine⟨_,hx,m,⟨g.tmp.1.trans h.symm,λi=>?_⟩,j,?_⟩
 ·rw[ht]
  exact VR.bD (show uy σ b (ρ.back b s.H.n SB.H.n)from⟨λl x e=>(m l).trans e,λ_ _ e=>e⟩) _ _ (g.tmp.2 i)
 ·have:=g.df
  rw[f.1]at this
  rw[f.2]
  exact this
def oe(i:Nat):List AV:=[.ptr (17+3*i) 0 0 0]
def oO{ρ:Env}{l:Nat}{v:Value}:VR ρ (.ptr l 0 0 0) v↔ ∃b N,ρ l=i_ (b,N)/\v= .pointer (i_ ⟨b,0,m_⟩):=by
 simp only[VR,Nat.zero_mul,Nat.zero_add]
def C6{c:fw}{ρ:Env}{w:World}{H:AH}{n:Nat}{K:Nat->List Int}(t:Rel c ρ H w)(k:H.get 15= .cT n K (λj=> .ptr (17+3*j) 0 0 0) m_)(o:H.get 16= .rows n 1 oe (.ty 89)):
  ∃b:Nat->Nat,(∀j,j<n->∃N,ρ (17+3*j)=i_ (b j,N))/\∀foc:Option (Nat×AV),(∀j a,foc=i_ (j,a)->j<n/\a= .ptr (17+3*j) 0 0 0)->
   Rel c ρ ((H.set 15 (.cT n K (λj=> .addr (b j) 0) foc)).set 16 (.rows n 1 (eW b) (.ty 89))) w:=by
 have s:=t.dF 15
 rw[k]at s
 obtain⟨Q,R,u,S,T,C,_⟩:=s
 have ex:∀j,∃b,j<n->∃N,ρ (17+3*j)=i_ (b,N):=λj=>by
  by_cases p:j<n
  ·obtain⟨b,N,q,_⟩:=oO.1 (C j p)
   exact⟨b,λ_=>⟨N,q⟩⟩
  ·exact⟨0,λh=>absurd h p⟩
 obtain⟨b,x⟩:=A_ ex
 have conv:∀j,j<n->∀v,VR ρ (.ptr (17+3*j) 0 0 0) v->VR ρ (.addr (b j) 0) v:=λj p v D=>by
  obtain⟨U,V,q,rfl⟩:=oO.1 D
  obtain⟨N,r⟩:=x j p
  rw[q]at r
  cases r
  simp only[VR]
 refine⟨b,x,λfoc E=>?_⟩
 have g:∀l,((H.set 15 (.cT n K (λj=> .addr (b j) 0) foc)).set 16 (.rows n 1 (eW b) (.ty 89))).get l=if l=16 then .rows n 1 (eW b) (.ty 89)else if l=15 then .cT n K (λj=> .addr (b j) 0) foc else H.get l:=λl=>by
  rw[n_,n_]
 refine t.alike A (λl hl=>?_) (λl=>?_) λl=>?_
 ·rw[g]
  by_cases m:l=16
  ·subst m
   rw[if_pos A]
   rw[o]at hl
   refine⟨λ_ _=>rfl,?_⟩
   rcases hl.2 with⟨q,r⟩|⟨bb,N,vs,rest,el,fr,q,r,F,G,d⟩
   ·left
    refine⟨?_,r⟩
    cases n with
    |zero=>rfl
    |succ n=>
     have:=congrArg v_ q
     rw[bE (n:=n+1) (e:=1) (f:=oe) λ_ _=>rfl]at this
     simp at this
   ·right
    refine⟨bb,N,vs,rest,el,fr,q,r,F,?_,d⟩
    obtain⟨I,J⟩:=mT (f:=oe) (λ_=>rfl) G
    refine oI I λi hi=>?_
    obtain⟨v,L,O⟩:=J i hi
    exact⟨v,L,aU.aL.2 ⟨conv i hi v (aU.aL.1 O).1,zH⟩⟩
  ·rw[if_neg m]
   by_cases d:l=15
   ·subst d
    rw[if_pos A]
    rw[k]at hl
    obtain⟨bb,N,u,f1,P,y,_⟩:=hl
    refine⟨bb,N,u,f1,P,λi hi=>conv i hi _ (y i hi),λj a e=>?_⟩
    obtain⟨p,rfl⟩:=E j a e
    exact⟨p,y j p⟩
   ·rw[if_neg d];exact hl
 ·rw[g]
  by_cases m:l=16
  ·subst m;rw[if_pos A,o];rfl
  ·rw[if_neg m]
   by_cases d:l=15
   ·subst d;rw[if_pos A,k];rfl
   ·rw[if_neg d]
 ·rw[g]
  by_cases m:l=16
  ·subst m;rw[if_pos A,o];exact⟨(λe=>zG),(λe=>zG)⟩
  ·rw[if_neg m]
   by_cases d:l=15
   ·subst d;rw[if_pos A,k];exact⟨(λe=>zG),(λe=>zG)⟩
   ·rw[if_neg d]
def G8{c:fw}{ρ:Env}{w:World}{H:AH}{n L:Nat}{K:Nat->List Int}{P:Nat->AV}{foc:Option (Nat×AV)}{R:Nat->List AV}(p:Rel c ρ H w)(hL:L≠15)(d:H.get 15= .cT n K P foc)(k:H.get L= .rows n 1 R (.ty 89))(m:∀i,(R i).length=1)
  (q:∀j,j<n->foc=i_ (j,.ptr (17+3*j) 0 0 0)∨∀v,VR ρ (P j) v->VR ρ (.ptr (17+3*j) 0 0 0) v) (r:∀j,j<n->∀v,aU ρ (R j) [v]->VR ρ (.ptr (17+3*j) 0 0 0) v):
  Rel c ρ ((H.set 15 (.cT n K (λj=> .ptr (17+3*j) 0 0 0) m_)).set L (.rows n 1 oe (.ty 89))) w:=by
 have g:∀l,((H.set 15 (.cT n K (λj=> .ptr (17+3*j) 0 0 0) m_)).set L (.rows n 1 oe (.ty 89))).get l=if l=L then .rows n 1 oe (.ty 89)else if l=15 then .cT n K (λj=> .ptr (17+3*j) 0 0 0) m_ else H.get l:=λl=>by
  rw[n_,n_]
 refine p.alike A (λl hl=>?_) (λl=>?_) λl=>?_
 ·rw[g]
  by_cases b:l=L
  ·subst b
   rw[if_pos A]
   rw[k]at hl
   refine⟨λ_ _=>rfl,?_⟩
   rcases hl.2 with⟨h1,o⟩|⟨bb,N,vs,rest,el,fr,h1,o,s,t,a⟩
   ·left
    refine⟨?_,o⟩
    cases n with
    |zero=>rfl
    |succ n=>
     have:=congrArg v_ h1
     rw[bE (n:=n+1) (e:=1) (f:=R) λi _=>m i]at this
     simp at this
   ·right
    refine⟨bb,N,vs,rest,el,fr,h1,o,s,?_,a⟩
    obtain⟨x,y⟩:=mT m t
    refine oI x λi hi=>?_
    obtain⟨v,C,D⟩:=y i hi
    exact⟨v,C,aU.aL.2 ⟨r i hi v D,zH⟩⟩
  ·rw[if_neg b]
   by_cases a:l=15
   ·subst a
    rw[if_pos A]
    rw[d]at hl
    obtain⟨bb,N,u,f1,E,F,G⟩:=hl
    refine⟨bb,N,u,f1,E,λi hi=>?_,λ_ _ e=>zG⟩
    rcases q i hi with h|h
    ·exact(G _ _ h).2
    ·exact h _ (F i hi)
   ·rw[if_neg a];exact hl
 ·rw[g]
  by_cases b:l=L
  ·subst b;rw[if_pos A,k];rfl
  ·rw[if_neg b]
   by_cases a:l=15
   ·subst a;rw[if_pos A,d];rfl
   ·rw[if_neg a]
 ·rw[g]
  by_cases b:l=L
  ·subst b;rw[if_pos A,k];exact⟨(λe=>zG),(λe=>zG)⟩
  ·rw[if_neg b]
   by_cases a:l=15
   ·subst a;rw[if_pos A,d];exact⟨(λe=>zG),(λe=>zG)⟩
   ·rw[if_neg a]
def cD:List (Nat×ai)->Nat->ai
 |[],_=> .dead
 |(i,b)::l,x=>if x=i then b else cD l x
def oP(n:Nat):∀(a:List (Nat×ai))(x:Nat),u_ {n:=n,t:=j_ a} x=cD a x
 |[],x=>rfl
 |(i,b)::l,x=>by
  have c:=oP n l x
  unfold u_ at c⊢
  simp only[j_,C_,cD]
  by_cases h:x=i
  ·rw[if_pos h,if_pos h]
  ·rw[if_neg h,if_neg h];exact c
def te:List (Nat×AV)->Nat->AV
 |[],_=> .any
 |(i,b)::l,x=>if x=i then b else te l x
def fV:∀(a:List (Nat×AV))(x:Nat),cR (j_ a) x=te a x
 |[],x=>rfl
 |(i,b)::l,x=>by
  have c:=fV l x
  unfold cR at c⊢
  simp only[j_,C_,te]
  by_cases h:x=i
  ·rw[if_pos h,if_pos h]
  ·rw[if_neg h,if_neg h];exact c
def NO(l:Nat):HR.get l=cD [(0,.cells [.ab 5 2 aA] .ro),(1,.cells [.str [48],.str [49]] .ro),(3,.cells [.map (i_ 13)] .ro),(6,.cells dz (.ex 20)),(13,.map lS)] l:=oP _ _ _
def wY(a:List (Nat×ai)):∀(c:List (Nat×ai))(x:Nat),cD (c++a) x=if x∈c.map (·.1)then cD c x else cD a x
 |[],x=>by simp[cD]
 |(i,b)::l,x=>by
  simp only[List.cons_append,cD,List.map_cons,List.mem_cons]
  by_cases h:x=i
  ·simp[h]
  ·simp only[h,false_or,if_false]
   exact wY a l x
def eX{q:Query}{n:Nat}{b:List (Nat×ai)}(c:∀x,x<15->cD b x= .dead)(l:Nat):(hG q n b).get l=if l<14 then HR.get l else if l=14 then .cells (aY q) (.ty 32)else cD b l:=by
 show u_ {n:=n,t:=j_ _} l=_
 rw[oP,NO,wY]
 show(if l∈[0,1,3,6,13]then _ else _)=_
 by_cases hm:l∈[0,1,3,6,13]
 ·have a:l<14:=by simp at hm;omega
  rw[if_pos hm,if_pos a]
 ·rw[if_neg hm]
  show(if l=14 then _ else cD b l)=_
  by_cases a:l<14
  ·rw[if_pos a,if_neg O,c l O]
   simp at hm
   simp[cD,hm]
  ·rw[if_neg a]
def Fy{σ:Nat->Nat}(h:∀j,j<14->σ j=j)(l:Nat):(HR.get l).bD σ=HR.get l:=by
 rw[wI]
 by_cases a:l=0
 ·rw[if_pos a];rfl
 ·rw[if_neg a]
  by_cases b:l=1
  ·rw[if_pos b];rfl
  ·rw[if_neg b]
   by_cases c:l=3
   ·rw[if_pos c]
    show ai.cells [.map (i_ (σ 13))] .ro=_
    rw[h 13 zC]
   ·rw[if_neg c]
    by_cases d:l=6
    ·rw[if_pos d]
     show ai.cells (bt.bD σ dz) (.ex 20)=_
     rw[nN]
    ·rw[if_neg d]
     by_cases Jh:l=13
     ·rw[if_pos Jh];rfl
     ·rw[if_neg Jh];rfl
def G9{σ:Nat->Nat}(h:∀j,j<14->σ j=j)(l:Nat):(HR.get l).le σ (HR.get l):=by
 rw[wI]
 by_cases a:l=0
 ·rw[if_pos a];exact⟨⟨⟨rfl,rfl,λi hi=>aZ i hi _⟩,trivial⟩,trivial⟩
 ·rw[if_neg a]
  by_cases b:l=1
  ·rw[if_pos b];exact⟨⟨rfl,rfl,trivial⟩,trivial⟩
  ·rw[if_neg b]
   by_cases c:l=3
   ·rw[if_pos c];exact⟨⟨(h 13 zC).symm,trivial⟩,trivial⟩
   ·rw[if_neg c]
    by_cases d:l=6
    ·rw[if_pos d];exact⟨pz _,rfl⟩
    ·rw[if_neg d]
     by_cases Jh:l=13
     ·rw[if_pos Jh]
      refine⟨rfl,?_,?_⟩
      ·simp[gK,lS,bt.le,l_]
      ·simp[gK,lS,bt.le,l_]
     ·rw[if_neg Jh];exact trivial
def A4{q:Query}{n0:Nat}{d:List (Nat×ai)}{H:AH}{σ:Nat->Nat}(hn:15<=n0)(b:∀x,x<15->cD d x= .dead)(a:∀x,n0<=x->cD d x= .dead)(t:∀l,l<14->H.get l=HR.get l)(m:H.get 14= .cells (aY q) (.ty 32))(hid:∀l,l<15->σ l=l)
  (o:∀l,l<n0->σ l<H.n) (p:∀l,n0<=l->σ l=H.n+(l-n0)) (c:∀l,15<=l->cD d l≠ .dead->H.get (σ l)=(cD d l).bD σ) (k:∀l f,l<n0->f<n0->σ l=σ f->l=f):Sub II.G σ (hG q n0 d) H where
 lt:=o
 ge:=p
 same l i:=by
  rw[eX b]at i⊢
  by_cases h:l<14
  ·rw[if_pos h,hid l O,t l h,Fy λj v=>hid j O]
  ·rw[if_neg h]at i⊢
   by_cases e:l=14
   ·subst e;rw[if_pos A,hid 14 O,m];rfl
   ·rw[if_neg e]at i⊢
    exact c l O i
 inj l f h1 u e:=by
  have lt:∀l,(hG q n0 d).get l≠ .dead->l<n0:=λl i=>by
   refine Nat.lt_of_not_le λr=>i ?_
   rw[eX b,if_neg O,if_neg O]
   exact a l r
  exact k l f (lt l h1) (lt f u) e
 fp g s:=by
  have s:g<12:=s
  exact⟨Nat.lt_of_lt_of_le (O:g<15) hn,hid g O⟩
 low l hl:=by
  have hl:n0<=l:=hl
  rw[eX b,if_neg O,if_neg O]
  exact a l hl
structure bj where
 key:List Int
 W:Nat->Int
 m:Nat
 L:Nat->Int
 G:Nat->Int
 C:Nat->Bool
 T:Nat->Int
 deriving Inhabited
def aK(gs:List bj)(j:Nat):bj:=gs.getD j default
def lU(x:bj)(g l:Nat):Nat->ai
 |0=> .cells [.ab g 1 (ae x.W),.own (l+1) x.m 3,.own (l+2) x.m 1] (.ty 94)
 |1=> .rows x.m 3 (az x.L x.G x.C) (.ty 99)
 |_=> .rows x.m 1 (ae x.T) (.ty 3)
def A5(q:Query)(gs:List bj)(l:Nat):ai :=
 if l<14 then HR.get l else if l=14 then .cells (aY q) (.ty 32)else if l=15 then .cT gs.length (λj=>(aK gs j).key) (λj=> .ptr (17+3*j) 0 0 0) m_ else if l=16 then .rows gs.length 1 oe (.ty 89)else lU (aK gs ((l-17)/3)) q.ng l ((l-17)%3)
def fB(q:Query)(gs:List bj):AH:=AH.C5 (17+3*gs.length) (A5 q gs)
def Ha(q:Query)(k:Nat)(F:Nat->ay)(gs:List bj)(i:Nat):St:={t:=tG k F (.own 16 gs.length 1) (i:Int),nt:=86,H:=fB q gs,df:=[]}
def gu(q:Query)(gs:List bj)(l:Nat):(fB q gs).get l=if l<17+3*gs.length then A5 q gs l else .dead:=AH.zr _ _ _
def tf{σ:Nat->Nat}(g:σ 14=14)(h:σ 15=15){k:Nat}{F:Nat->ay}{out b:AV}{a:Int}(m:b=out.bD σ)(i:Nat):cR (tG k F b a) i=(cR (tG k F out a) i).bD σ:=by
 unfold tG
 rw[fV,fV]
 simp only[te]
 by_cases c:i=2
 ·simp only[c,if_true];show _=q_ (σ 14) 0 0 0;rw[g]
 ·by_cases d:i=5
  ·simp only[d,c,if_true,if_false];show _=AV.map (i_ (σ 15));rw[h];rfl
  ·by_cases e:i=6
   ·simp only[e,c,d,if_true,if_false];exact m
   ·by_cases f:i=15
    ·simp only[f,c,d,e,if_true,if_false];rfl
    ·by_cases j:i=16
     ·simp only[j,c,d,e,f,if_true,if_false];rfl
     ·by_cases l:i=17
      ·simp only[l,c,d,e,f,j,if_true,if_false];rfl
      ·simp only[c,d,e,f,j,l,if_false];rfl
def gU(k:Nat)(F:Nat->ay):an k (λi=>aF (F i)) (λi=>aF (F i)):=λi _ σ=>⟨⟨rfl,rfl⟩,⟨rfl,rfl⟩,⟨rfl,rfl⟩,⟨rfl,rfl⟩,⟨rfl,rfl⟩,⟨rfl,rfl⟩,⟨rfl,rfl⟩,⟨rfl,rfl⟩,⟨rfl,rfl⟩,⟨rfl,rfl⟩,trivial⟩
def wZ(q:Query)(k:Nat)(F:Nat->ay)(gs b:List bj)(i:Nat):Prop :=
 ∀(ro:Option Nat)(n:Nat)(c:fw)(ρ:Env)(a:Act)(w:World),ro=m_->c.G=II.G->(∀l,c.E l->l<16)->cA c ρ (Ha q k F gs i) a w->
  (aD II 40 4001).wpIn (WF ro) n PP (λx a1 d=>x= .normal/\∃ρ',iU 16 ρ ρ'/\cA c ρ' (Ha q k F b (i+1)) a1 d) a w
def Fz(q:Query)(k:Nat)(F:Nat->ay)(n i:Nat)(hi:i<k)(e:k<=1000000)(a:ct q=true)(b:bB (F i)=true)(c:gk q (F i)=false):
  kg [jW q,qj q 0] 40 4001 17 (ui q k F 0 0 0 (.own 16 n 1) (i:Int) false) (ui q k F 0 0 0 (.own 16 n 1) (i:Int) true) (λ_=>True):=by
 rw[NL (l:=0) _ _ _ _ _ _ _ _ _ A]
 have d:s_ (i:Int)=i:=O
 have f:d_ k=(k:Int):=rfl
 have fl:=gU k F
 have hQ:=trivial
 rw[d,jv,a,b,c]
 refine Zg (λ_=>?_) λh=>absurd h O
 refine cC _ _ zN (cC _ _ A ?_)
 show ah true _ _
 refine cC _ _ (aq O O) ?_
 repeat' (with_reducible first|refine Zf A ?_|refine YG A ?_|refine Zi A ?_|refine And.intro ?_ ?_|exact bC _ _|exact bO _ _|exact aZ|exact fl|exact hQ)
def JC(q:Query)(k:Nat)(F:Nat->ay)(gs:List bj)(i:Nat)(hi:i<k)(t:k<=1000000)(u:ct q=true)(v:bB (F i)=true)(m:gk q (F i)=false):wZ q k F gs gs i:=by
 intro ro n c ρ a w o f K s
 let σ:Nat->Nat:=λl=>if l<17 then l else 17+3*gs.length+(l-17)
 have b:∀l,l<17->σ l=l:=λl h=>by simp only[σ,if_pos h]
 have d:∀l,17<=l->σ l=17+3*gs.length+(l-17):=λl h=>by simp only[σ,if_neg (Nat.not_lt.2 h)]
 have nil:∀x,cD [] x= .dead:=λ_=>rfl
 have g:Sub c.G σ (hG q 17 []) (fB q gs):=by
  rw[f]
  refine A4 (H:=fB q gs) zC (λ_ _=>rfl) (λ_ _=>rfl) (λl h=>?_) ?_ (λl h=>b l O) (λl h=>?_) (λl h=>d l h) (λl _ p=>absurd (nil l) p) λl y h C e=>by rw[b l h,b y C]at e;exact e
  ·rw[gu,if_pos O];unfold A5;rw[if_pos h]
  ·rw[gu,if_pos O];unfold A5;rw[if_neg O,if_pos A]
  ·rw[b l h];show l<17+3*gs.length;omega
 have r:Eb σ (hG q 17 []) (hG q 17 []) (fB q gs) (fB q gs):=
  {n:=by show 17+3*gs.length=17+3*gs.length+(17-17);omega
   old:=λl p=>g.same l p
   new:=λl hl=>by
    have hl:17<=l:=hl
    rw[d l hl,gu,if_neg O,g.low l hl];rfl
   rest:=λ_ _ _=>rfl}
 refine wpIn_mono (td (SB:=Ha q k F gs i) (Fz q k F gs.length i hi t u v m) (λj=>tf (b 14 zC) (b 15 zC) (by show _=z_ (σ 16) _ _;rw[b 16 zC]) j) A ⟨rfl,rfl⟩ ro n c ρ a w o f g s) λx a1 L m=>?_
 obtain⟨rfl,N,D,l1,_,r1⟩:=m
 obtain⟨E,_,I⟩:=r1.view l1 (by show c.G<=17;rw[f];decide) (λl hl=>hl)
 obtain⟨ρ',hx,_,J⟩:=pJ (SB':=Ha q k F gs (i+1)) s g I r (λj=>tf (b 14 zC) (b 15 zC) (by show _=z_ (σ 16) _ _;rw[b 16 zC]) j) A ⟨rfl,rfl⟩
 exact⟨rfl,ρ',iU.of hx,J⟩
def FA(q:Query)(x:ay):List Int:=[bif M 0 q.ng then aj q x 0 else 0,bif M 1 q.ng then aj q x 1 else 0,bif M 2 q.ng then aj q x 2 else 0]
def NP(q:Query)(W:Nat->Int)(h:q.ng<=3):(p_ q.ng 3&&k_ (g_ q.ng) λ_=>z (a_=a_))=true:=by
 rw[kV h,Bool.true_and]
 exact List.all_eq_true.2 λ_ _=>rfl
def gV(W:Nat->Int)(m:Nat)(v:Int)(j:Nat):Int:=if j=m then v else W j
def uj(W:Nat->Bool)(m:Nat)(v:Bool)(j:Nat):Bool:=if j=m then v else W j
def NQ(T:Nat->Int)(m:Nat)(v:Int):an (m+1) (λi=>bif M i m then ae T i else e_ 1 (c_ (0+(i-m)*1) [.int a_ v])) (ae (gV T m v)):=λk a σ=>by
 show bt.le σ (bif M k m then ae T k else e_ 1 (c_ (0+(k-m)*1) [.int a_ v])) [.int a_ (gV T m v k)]
 unfold gV
 by_cases h:k<m
 ·rw[eV h,if_neg O];exact⟨⟨rfl,rfl⟩,trivial⟩
 ·have:k=m:=by omega
  subst this
  rw[js h,if_pos A,show 0+(k-k)*1=0 by omega]
  exact⟨⟨rfl,rfl⟩,trivial⟩
def QT(L G:Nat->Int)(C:Nat->Bool)(m:Nat)(a b:Int)(c:Bool):an (m+1) (λi=>bif M i m then az L G C i else e_ 3 (c_ (0+(i-m)*3) [.int a_ a,.int a_ b,.bool c])) (az (gV L m a) (gV G m b) (uj C m c)):=λk d σ=>by
 show bt.le σ (bif M k m then az L G C k else e_ 3 (c_ (0+(k-m)*3) [.int a_ a,.int a_ b,.bool c])) [.int a_ (gV L m a k),.int a_ (gV G m b k),.bool (uj C m c k)]
 unfold gV uj
 by_cases h:k<m
 ·rw[eV h,if_neg O,if_neg O,if_neg O];exact⟨⟨rfl,rfl⟩,⟨rfl,rfl⟩,rfl,trivial⟩
 ·have:k=m:=by omega
  subst this
  rw[js h,if_pos A,if_pos A,if_pos A,show 0+(k-k)*3=0 by omega]
  exact⟨⟨rfl,rfl⟩,⟨rfl,rfl⟩,rfl,trivial⟩
def QU(v:Int):an 1 (fW [.int a_ v] 1) λ_=>[.int a_ v]:=λk a σ=>by
 have:k=0:=O
 subst this
 exact⟨⟨rfl,rfl⟩,trivial⟩
def Uw(a b:Int)(c:Bool):an 1 (fW [.int a_ a,.int a_ b,.bool c] 3) λ_=>[.int a_ a,.int a_ b,.bool c]:=λk d σ=>by
 have:k=0:=O
 subst this
 exact⟨⟨rfl,rfl⟩,⟨rfl,rfl⟩,rfl,trivial⟩
def FB(n:Nat)(b:Nat->Nat):an n (eW b) (eW b):=λ_ _ _=>⟨⟨rfl,rfl⟩,trivial⟩
def JD(n:Nat)(b:Nat->Nat)(l:Nat):an (n+1) (λi=>bif M i n then eW b i else e_ 1 (c_ (0+(i-n)*1) [.ptr l 0 0 0])) (λj=>bif b_ j n then [.any]else eW b j):=λk c σ=>by
 show bt.le σ (bif M k n then eW b k else e_ 1 (c_ (0+(k-n)*1) [.ptr l 0 0 0])) (bif b_ k n then [.any]else eW b k)
 by_cases h:k<n
 ·have e:b_ k n=false:=by
   cases a:b_ k n with
   |false=>rfl
   |true=>have:=dE a;omega
  rw[eV h,e];exact⟨⟨rfl,rfl⟩,trivial⟩
 ·have:k=n:=by omega
  subst this
  rw[js h,ni,show 0+(k-k)*1=0 by omega]
  exact⟨trivial,trivial⟩
def NR(n:Nat)(K:Nat->List Int)(ks:List Int)(b:Nat->Nat)(l:Nat):∀i,i<n+1->cZ n K ks i=cZ n K ks i/\∀σ,l_ σ (nz n (λj=> .addr (b j) 0) (.ptr l 0 0 0) i) (bif b_ i n then .any else .addr (b i) 0):=λi hi=>⟨rfl,λσ=>by
 unfold nz
 cases b_ i n with
 |true=>exact trivial
 |false=>exact⟨rfl,rfl⟩⟩
def QV(n:Nat)(b:Nat->Nat)(l:Nat):(bif M n n then eW b n else e_ 1 (c_ (0+(n-n)*1) [.ptr l 0 0 0]))=[.ptr l 0 0 0]:=by
 rw[js (HD n),show 0+(n-n)*1=0 by omega];rfl
def JE(q:Query)(k n:Nat)(F:Nat->ay)(K:Nat->List Int)(b:Nat->Nat)(j m:Nat)(W L G T:Nat->Int)(C:Nat->Bool)(i:Nat)(hi:i<k)(t:k<=1000000)(u:m<=1000000)(c:ct q=true)(d:q.ng<=3)(e:bB (F i)=true)(f:gk q (F i)=true)(a1:(ln n K 3&&uI n K [bif M 0 q.ng then aj q (F i) 0 else 0,bif M 1 q.ng then aj q (F i) 1 else 0,bif M 2 q.ng then aj q (F i) 2 else 0] j)=true):
  kg [jW q,qj q q.ng] 40 4001 20 (Fx q k n F K b j q.ng W m (az L G C) (ae T) (az (gV L m (kR q (F i))) (gV G m (lJ q (F i))) (uj C m (Br q (F i)))) (ae (gV T m (i:Int))) (i:Int) false) (Fx q k n F K b j q.ng W m (az L G C) (ae T) (az (gV L m (kR q (F i))) (gV G m (lJ q (F i))) (uj C m (Br q (F i)))) (ae (gV T m (i:Int))) (i:Int) true) (λ_=>True):=by
 rw[QS _ _ _ _ _ _ _ _ _ _ _ _ _ _ _ A A]
 have g:s_ (i:Int)=i:=O
 have v:d_ k=(k:Int):=rfl
 have fl:=gU k F
 have hQ:=trivial
 have l:=NQ T m (i:Int)
 have o:=QT L G C m (kR q (F i)) (lJ q (F i)) (Br q (F i))
 have p:=FB n b
 have r:b_ q.ng q.ng=true:=ni _
 have s:=NP q (aj q (F i)) d
 have a2:(z (m<=m)&&true&&true&&z ((m+1)*24<=140737488355328)&&true)=true:=by rw[bW (dw m),bW (O:(m+1)*24<=140737488355328)];rfl
 have a:(z (m<=m)&&true&&true&&z ((m+1)*8<=140737488355328)&&true)=true:=by rw[bW (dw m),bW (O:(m+1)*8<=140737488355328)];rfl
 have a4:aN a_ ((i:Int)+1)=true:=aq O O
 rw[g,jv,c,e,f,r]
 refine Zg (λ_=>?_) λh=>absurd h O
 refine cC _ _ zN (cC _ _ A ?_)
 show ah false _ _
 try refine cC _ _ A ?_
 repeat' (first|with_reducible refine Zf A ?_|with_reducible refine YG A ?_|with_reducible refine Zi A ?_|with_reducible refine And.intro ?_ ?_|with_reducible exact bL _ _|with_reducible exact bC _ _|with_reducible exact bO _ _|with_reducible exact aZ|with_reducible exact fl|with_reducible exact l|with_reducible exact o|with_reducible exact p|with_reducible exact hQ|with_reducible refine cC _ _ a1 ?_|with_reducible refine cC _ _ a2 ?_|with_reducible refine cC _ _ a ?_|with_reducible refine cC _ _ a4 ?_|refine cC _ _ s ?_|exactλ_ _=>⟨rfl,λ_=>⟨rfl,rfl⟩⟩|refine cC _ _ a1 ?_|refine cC _ _ a2 ?_|refine cC _ _ a ?_|refine cC _ _ (by simp;done) ?_)
def JF(q:Query)(k n:Nat)(F:Nat->ay)(K:Nat->List Int)(b:Nat->Nat)(i:Nat)(hi:i<k)(t:k<=1000000)(hn:n<=1000000)(d:ct q=true)(e:q.ng<=3)(f:bB (F i)=true)(g:gk q (F i)=true)(a1:(ln n K 3&&Kv n K [bif M 0 q.ng then aj q (F i) 0 else 0,bif M 1 q.ng then aj q (F i) 1 else 0,bif M 2 q.ng then aj q (F i) 2 else 0])=true)(a2:(ln (n+1) (cZ n K [bif M 0 q.ng then aj q (F i) 0 else 0,bif M 1 q.ng then aj q (F i) 1 else 0,bif M 2 q.ng then aj q (F i) 2 else 0]) 3&&uI (n+1) (cZ n K [bif M 0 q.ng then aj q (F i) 0 else 0,bif M 1 q.ng then aj q (F i) 1 else 0,bif M 2 q.ng then aj q (F i) 2 else 0]) [bif M 0 q.ng then aj q (F i) 0 else 0,bif M 1 q.ng then aj q (F i) 1 else 0,bif M 2 q.ng then aj q (F i) 2 else 0] n)=true):
  kg [jW q,qj q q.ng] 40 4001 17 (QQ q k n F K b [bif M 0 q.ng then aj q (F i) 0 else 0,bif M 1 q.ng then aj q (F i) 1 else 0,bif M 2 q.ng then aj q (F i) 2 else 0] q.ng (aj q (F i)) (kR q (F i)) (lJ q (F i)) (Br q (F i)) (i:Int) false) (QQ q k n F K b [bif M 0 q.ng then aj q (F i) 0 else 0,bif M 1 q.ng then aj q (F i) 1 else 0,bif M 2 q.ng then aj q (F i) 2 else 0] q.ng (aj q (F i)) (kR q (F i)) (lJ q (F i)) (Br q (F i)) (i:Int) true) (C4 n):=by
 have h:=QR q k n F K b (i:Int) A
 have j:s_ (i:Int)=i:=O
 rw[j]at h
 rw[h]
 have u:d_ k=(k:Int):=rfl
 have fl:=gU k F
 have l:=QU (i:Int)
 have m:=Uw (kR q (F i)) (lJ q (F i)) (Br q (F i))
 have o:=JD n b 20
 have p:=NR n K [bif M 0 q.ng then aj q (F i) 0 else 0,bif M 1 q.ng then aj q (F i) 1 else 0,bif M 2 q.ng then aj q (F i) 2 else 0] b 20
 have a:=QV n b 20
 have r:b_ q.ng q.ng=true:=ni _
 have s:=NP q (aj q (F i)) e
 have c:(z (n<=n)&&true&&true&&z ((n+1)*8<=140737488355328)&&true)=true:=by rw[bW (dw n),bW (O:(n+1)*8<=140737488355328)];rfl
 have a4:aN a_ ((i:Int)+1)=true:=aq O O
 rw[jv,d,f,g,r]
 refine Zg (λ_=>?_) λh=>absurd h O
 refine cC _ _ zN (cC _ _ A ?_)
 show ah false _ _
 try refine cC _ _ A ?_
 repeat' (first|with_reducible refine Zf A ?_|with_reducible refine YG A ?_|with_reducible refine Zi A ?_|with_reducible refine And.intro ?_ ?_|with_reducible exact bL _ _|with_reducible exact bC _ _|with_reducible exact bO _ _|with_reducible exact aZ|with_reducible exact fl|with_reducible exact l|with_reducible exact m|with_reducible exact o|with_reducible exact p|with_reducible exact a|with_reducible refine cC _ _ a1 ?_|with_reducible refine cC _ _ a2 ?_|with_reducible refine cC _ _ c ?_|with_reducible refine cC _ _ a4 ?_|refine cC _ _ s ?_|refine cC _ _ a1 ?_|refine cC _ _ a2 ?_|refine cC _ _ c ?_|refine cC _ _ (by simp;done) ?_|exact a|(rw[js (HD n),show 0+(n-n)*1=0 by omega];rfl))
def NS{σ:Nat->Nat}(g:σ 14=14)(h:σ 15=15){k:Nat}{F:Nat->ay}{out b:AV}{a:Int}(n:l_ σ out b)(i:Nat):l_ σ (cR (tG k F out a) i) (cR (tG k F b a) i):=by
 unfold tG
 rw[fV,fV]
 simp only[te]
 by_cases c:i=2
 ·simp only[c,if_true];exact⟨g.symm,rfl,rfl,rfl⟩
 ·by_cases d:i=5
  ·simp only[d,c,if_true,if_false];exact h.symm
  ·by_cases e:i=6
   ·simp only[e,c,d,if_true,if_false];exact n
   ·by_cases f:i=15
    ·simp only[f,c,d,e,if_true,if_false];exact⟨rfl,rfl,λj o=>gU k F j o σ⟩
    ·by_cases l:i=16
     ·simp only[l,c,d,e,f,if_true,if_false];exact⟨rfl,rfl⟩
     ·by_cases m:i=17
      ·simp only[m,c,d,e,f,l,if_true,if_false];exact⟨rfl,rfl⟩
      ·simp only[c,d,e,f,l,m,if_false];exact trivial
def gg{gs:List bj}{j:Nat}(a:j<gs.length)(x:bj)(l:Nat):aK (gs.set j x) l=if l=j then x else aK gs l:=by
 unfold aK
 simp only[List.getD_eq_getElem?_getD,List.getElem?_set]
 by_cases h:l=j
 ·subst h;simp[a]
 ·rw[if_neg h,if_neg (λe=>h e.symm)]
def lE{q:Query}{gs:List bj}{l:Nat}(h:l<14):(fB q gs).get l=HR.get l:=by
 rw[gu,if_pos O];unfold A5;rw[if_pos h]
def oQ(q:Query)(gs:List bj):(fB q gs).get 14= .cells (aY q) (.ty 32):=by
 rw[gu,if_pos O];unfold A5;rw[if_neg O,if_pos A]
def w4(q:Query)(gs:List bj):(fB q gs).get 15= .cT gs.length (λj=>(aK gs j).key) (λj=> .ptr (17+3*j) 0 0 0) m_:=by
 rw[gu,if_pos O];unfold A5;rw[if_neg O,if_neg O,if_pos A]
def y3(q:Query)(gs:List bj):(fB q gs).get 16= .rows gs.length 1 oe (.ty 89):=by
 rw[gu,if_pos O];unfold A5;rw[if_neg O,if_neg O,if_neg O,if_pos A]
def lV{q:Query}{gs:List bj}{j d:Nat}(a:j<gs.length)(b:d<3):(fB q gs).get (17+3*j+d)=lU (aK gs j) q.ng (17+3*j+d) d:=by
 rw[gu,if_pos O];unfold A5
 rw[if_neg O,if_neg O,if_neg O,if_neg O,show(17+3*j+d-17)/3=j by omega,show(17+3*j+d-17)%3=d by omega]
def w5{q:Query}{gs:List bj}{l:Nat}(h:17+3*gs.length<=l):(fB q gs).get l= .dead:=by
 rw[gu,if_neg O]
def jw(T:Nat->Int)(σ:Nat->Nat)(i:Nat):bt.le σ (ae T i) (ae T i):=⟨⟨rfl,rfl⟩,trivial⟩
def kS(L G:Nat->Int)(C:Nat->Bool)(σ:Nat->Nat)(i:Nat):bt.le σ (az L G C i) (az L G C i):=⟨⟨rfl,rfl⟩,⟨rfl,rfl⟩,rfl,trivial⟩
def Hb{σ:Nat->Nat}{x:bj}{g l d:Nat}(a:d<3)(h:d=0->σ (l+1)=l+1/\σ (l+2)=l+2):(lU x g l d).le σ (lU x g l d):=by
 match d,a with
 |0,_=>exact⟨⟨⟨rfl,rfl,λi _=>jw _ σ i⟩,⟨(h A).1.symm,rfl,rfl⟩,⟨(h A).2.symm,rfl,rfl⟩,trivial⟩,rfl⟩
 |1,_=>exact⟨rfl,rfl,λi _=>kS _ _ _ σ i,rfl⟩
 |2,_=>exact⟨rfl,rfl,λi _=>jw _ σ i,rfl⟩
def w6(n l:Nat):l<14∨l=14∨l=15∨l=16∨(∃i d,i<n/\d<3/\l=17+3*i+d)∨17+3*n<=l:=by
 by_cases h:l<17
 ·omega
 ·by_cases a:17+3*n<=l
  ·omega
  ·exact .inr (.inr (.inr (.inr (.inl ⟨(l-17)/3,(l-17)%3,O,O,O⟩))))
def qJ(N j l:Nat):Nat:=if l<17 then l else if l<20 then 17+3*j+(l-17)else N+(l-20)
def yb(N j l:Nat):Nat:=if l=17+3*j+1 then N else if l=17+3*j+2 then N+1 else if l<N then l else l+2
def rV(q:Query)(gs:List bj)(b:Nat->Nat)(j:Nat):AH:=((fB q gs).set 15 (.cT gs.length (λj=>(aK gs j).key) (λj=> .addr (b j) 0) (i_ (j,.ptr (17+3*j) 0 0 0)))).set 16 (.rows gs.length 1 (eW b) (.ty 89))
def dB(q:Query)(gs:List bj)(b:Nat->Nat)(j l:Nat):(rV q gs b j).get l=if l=16 then .rows gs.length 1 (eW b) (.ty 89)else if l=15 then .cT gs.length (λj=>(aK gs j).key) (λj=> .addr (b j) 0) (i_ (j,.ptr (17+3*j) 0 0 0))else(fB q gs).get l:=by
 unfold rV;rw[n_,n_]
def mj(q:Query)(gs:List bj)(b:Nat->Nat)(j:Nat)(x:bj)(l:Nat):ai :=
 if l=17+3*j then .cells [.ab q.ng 1 (ae x.W),.own (17+3*gs.length) x.m 3,.own (17+3*gs.length+1) x.m 1] (.ty 94)else if l=17+3*j+1 then .dead else if l=17+3*j+2 then .dead else if l=17+3*gs.length then .rows x.m 3 (az x.L x.G x.C) (.ty 99)else if l=17+3*gs.length+1 then .rows x.m 1 (ae x.T) (.ty 3)else(rV q gs b j).get l
def w7(q:Query)(gs:List bj)(b:Nat->Nat)(j:Nat)(x:bj):AH:=AH.C5 (17+3*gs.length+2) (mj q gs b j x)
def eZ(q:Query)(gs:List bj)(b:Nat->Nat)(j:Nat)(x:bj)(l:Nat):(w7 q gs b j x).get l=if l<17+3*gs.length+2 then mj q gs b j x l else .dead:=AH.zr _ _ _
def w8(n:Nat)(K:Nat->List Int)(b:Nat->Nat)(j g:Nat)(W:Nat->Int)(m:Nat)(S T:Nat->List AV):List (Nat×ai):=[(15,.cT n K (λj=> .addr (b j) 0) (i_ (j,.ptr 17 0 0 0))),(16,.rows n 1 (eW b) (.ty 89)),(17,.cells [.ab g 1 (ae W),.own 18 m 3,.own 19 m 1] (.ty 94)),(18,.rows m 3 S (.ty 99)),(19,.rows m 1 T (.ty 3))]
def w9(n:Nat)(K:Nat->List Int)(b:Nat->Nat)(j g:Nat)(W:Nat->Int)(m:Nat)(S T:Nat->List AV):List (Nat×ai):=[(15,.cT n K (λj=> .addr (b j) 0) (i_ (j,.ptr 17 0 0 0))),(16,.rows n 1 (eW b) (.ty 89)),(17,.cells [.ab g 1 (ae W),.own 20 m 3,.own 21 m 1] (.ty 94)),(20,.rows m 3 S (.ty 99)),(21,.rows m 1 T (.ty 3))]
def oR{n:Nat}{K:Nat->List Int}{b:Nat->Nat}{j g:Nat}{W:Nat->Int}{m:Nat}{S T:Nat->List AV}{l:Nat}(a:cD (w8 n K b j g W m S T) l≠ .dead):l=15∨l=16∨l=17∨l=18∨l=19:=f_ λh=>a (by
 simp only[not_or]at h
 obtain⟨c,d,e,f,i⟩:=h
 simp only[w8,cD,c,d,e,f,i,if_false])
def y4{n:Nat}{K:Nat->List Int}{b:Nat->Nat}{j g:Nat}{W:Nat->Int}{m:Nat}{S T:Nat->List AV}{l:Nat}(a:l≠15)(c:l≠16)(d:l≠17)(e:l≠20)(f:l≠21):cD (w9 n K b j g W m S T) l= .dead:=by
 simp only[w9,cD,a,c,d,e,f,if_false]
set_option maxHeartbeats 4000000 in
def NT(q:Query)(k:Nat)(F:Nat->ay)(gs:List bj)(i j:Nat)(g:bj)(ks:List (aC PP II))(Q:j<gs.length)(bi:g.key=(aK gs j).key)(bq:g.W=(aK gs j).W)(bs:g.m=(aK gs j).m+1)
  (small:∀b,kg ks 40 4001 20 (Fx q k gs.length F (λj=>(aK gs j).key) b j q.ng (aK gs j).W (aK gs j).m (az (aK gs j).L (aK gs j).G (aK gs j).C) (ae (aK gs j).T) (az g.L g.G g.C) (ae g.T) (i:Int) false) (Fx q k gs.length F (λj=>(aK gs j).key) b j q.ng (aK gs j).W (aK gs j).m (az (aK gs j).L (aK gs j).G (aK gs j).C) (ae (aK gs j).T) (az g.L g.G g.C) (ae g.T) (i:Int) true) (λ_=>True)):
  wZ q k F gs (gs.set j g) i:=by
 intro ro n c ρ a w b0 J hE hr
 obtain⟨b,hb,V⟩:=C6 (n:=gs.length) (K:=λj=>(aK gs j).key) hr.heap (w4 q gs) (y3 q gs)
 have r0:Rel c ρ (rV q gs b j) w:=V (i_ (j,.ptr (17+3*j) 0 0 0)) (by rintro j' a e;cases e;exact⟨Q,rfl⟩)
 have X:cA c ρ {Ha q k F gs i with H:=rV q gs b j} a w:=⟨hr.tmp,r0,hr.df⟩
 have p:∀l,l<17->qJ (17+3*gs.length) j l=l:=λl h=>by unfold qJ;rw[if_pos h]
 have y:qJ (17+3*gs.length) j 17=17+3*j:=rfl
 have D:qJ (17+3*gs.length) j 18=17+3*j+1:=rfl
 have E:qJ (17+3*gs.length) j 19=17+3*j+2:=rfl
 have R:∀l,20<=l->qJ (17+3*gs.length) j l=17+3*gs.length+(l-20):=λl h=>by unfold qJ;rw[if_neg O,if_neg O]
 have t0:=lV (q:=q) (gs:=gs) Q (O:0<3)
 have t1:=lV (q:=q) (gs:=gs) Q (O:1<3)
 have t2:=lV (q:=q) (gs:=gs) Q (O:2<3)
 have hs:Sub c.G (qJ (17+3*gs.length) j) (hG q 20 (w8 gs.length (λj=>(aK gs j).key) b j q.ng (aK gs j).W (aK gs j).m (az (aK gs j).L (aK gs j).G (aK gs j).C) (ae (aK gs j).T))) (rV q gs b j):=by
  rw[J]
  refine A4 zC (λl hl=>?_) (λl hl=>?_) (λl h=>?_) ?_ (λl h=>p l O) (λl h=>?_) (λl h=>R l h) (λl hl u=>?_) λl l' h h' e=>?_
  ·exact f_ λu=>by have:=oR u;omega
  ·exact f_ λu=>by have:=oR u;omega
  ·rw[dB,if_neg O,if_neg O,lE h]
  ·rw[dB,if_neg O,if_neg O,oQ]
  ·show qJ _ _ l<17+3*gs.length
   unfold qJ
   by_cases h1:l<17
   ·rw[if_pos h1];omega
   ·rw[if_neg h1,if_pos h];omega
  ·rcases oR u with rfl|rfl|rfl|rfl|rfl
   ·rw[p 15 zC,dB,if_neg O,if_pos A];rfl
   ·rw[p 16 zC,dB,if_pos A];rfl
   ·rw[y,dB,if_neg O,if_neg O];exact t0
   ·rw[D,dB,if_neg O,if_neg O];exact t1
   ·rw[E,dB,if_neg O,if_neg O];exact t2
  ·unfold qJ at e
   split at e<;>split at e<;>(try split at e)<;>(try split at e)<;>omega
 have b1:Eb (qJ (17+3*gs.length) j) (hG q 20 (w8 gs.length (λj=>(aK gs j).key) b j q.ng (aK gs j).W (aK gs j).m (az (aK gs j).L (aK gs j).G (aK gs j).C) (ae (aK gs j).T))) (hG q 22 (w9 gs.length (λj=>(aK gs j).key) b j q.ng g.W g.m (az g.L g.G g.C) (ae g.T))) (rV q gs b j) (w7 q gs b j g):=by
  have nd:∀l,l<15->cD (w8 gs.length (λj=>(aK gs j).key) b j q.ng (aK gs j).W (aK gs j).m (az (aK gs j).L (aK gs j).G (aK gs j).C) (ae (aK gs j).T)) l= .dead:=λl hl=>f_ λu=>by have:=oR u;omega
  have Y:∀l,l<15->cD (w9 gs.length (λj=>(aK gs j).key) b j q.ng g.W g.m (az g.L g.G g.C) (ae g.T)) l= .dead:=λl hl=>y4 O O O O O
  refine⟨?_,λl u=>?_,λl hl=>?_,λl hl U=>?_⟩
  ·show 17+3*gs.length+2=17+3*gs.length+(22-20);omega
  ·rw[eX nd]at u
   rw[eX Y]
   by_cases h:l<14
   ·rw[if_pos h,p l O,Fy λj Q=>p j O,eZ,if_pos O]
    unfold mj
    rw[if_neg O,if_neg O,if_neg O,if_neg O,if_neg O,dB,if_neg O,if_neg O,lE h]
   ·rw[if_neg h]at u⊢
    by_cases Z:l=14
    ·subst Z
     rw[if_pos A,p 14 O,eZ,if_pos O]
     unfold mj
     rw[if_neg O,if_neg O,if_neg O,if_neg O,if_neg O,dB,if_neg O,if_neg O,oQ];rfl
    ·rw[if_neg Z]at u⊢
     rcases oR u with rfl|rfl|rfl|rfl|rfl
     ·rw[p 15 zC,eZ,if_pos O]
      unfold mj
      rw[if_neg O,if_neg O,if_neg O,if_neg O,if_neg O,dB,if_neg O,if_pos A];rfl
     ·rw[p 16 zC,eZ,if_pos O]
      unfold mj
      rw[if_neg O,if_neg O,if_neg O,if_neg O,if_neg O,dB,if_pos A];rfl
     ·rw[y,eZ,if_pos O]
      unfold mj
      rw[if_pos A];rfl
     ·rw[D,eZ,if_pos O]
      unfold mj
      rw[if_neg O,if_pos A];rfl
     ·rw[E,eZ,if_pos O]
      unfold mj
      rw[if_neg O,if_neg O,if_pos A];rfl
  ·have hl:20<=l:=hl
   rw[eX Y,if_neg O,if_neg O,R l hl,eZ]
   by_cases ad:l=20
   ·subst ad
    rw[if_pos O]
    unfold mj
    rw[if_neg O,if_neg O,if_neg O,if_pos O];rfl
   ·by_cases ag:l=21
    ·subst ag
     rw[if_pos O]
     unfold mj
     rw[if_neg O,if_neg O,if_neg O,if_neg O,if_pos O];rfl
    ·rw[if_neg O,y4 O O O ad ag];rfl
  ·have hl:l<17+3*gs.length:=hl
   have I:∀d,d<3->(hG q 20 (w8 gs.length (λj=>(aK gs j).key) b j q.ng (aK gs j).W (aK gs j).m (az (aK gs j).L (aK gs j).G (aK gs j).C) (ae (aK gs j).T))).get (17+d)≠ .dead:=λd u=>by
    rw[eX nd,if_neg O,if_neg O]
    match d,u with
    |0,_=>exactλe=>zG
    |1,_=>exactλe=>zG
    |2,_=>exactλe=>zG
   have n0:l≠17+3*j:=λe=>U 17 (I 0 O) (by rw[y];exact e.symm)
   have n1:l≠17+3*j+1:=λe=>U 18 (I 1 O) (by rw[D];exact e.symm)
   have n2:l≠17+3*j+2:=λe=>U 19 (I 2 O) (by rw[E];exact e.symm)
   rw[eZ,if_pos O]
   unfold mj
   rw[if_neg n0,if_neg n1,if_neg n2,if_neg O,if_neg O]
 have tt:∀f l,cR (tG k F (.own 16 gs.length 1) f) l=(cR (tG k F (.own 16 gs.length 1) f) l).bD (qJ (17+3*gs.length) j):=λf l=>tf (p 14 zC) (p 15 zC) (by show _=z_ (qJ _ _ 16) _ _;rw[p 16 zC]) l
 refine wpIn_mono (td (SB:={Ha q k F gs i with H:=rV q gs b j}) (small b) (λl=>tt _ l) A ⟨rfl,rfl⟩ ro n c ρ a w b0 J hs X) λx a1 w1 hp=>?_
 obtain⟨rfl,s1,b5,l1,_,r1⟩:=hp
 obtain⟨b2,_,r2⟩:=r1.view l1 (by show c.G<=20;rw[J];decide) (λl hl=>hl)
 have b3:cA (c.iT ρ (hG q 20 (w8 gs.length (λj=>(aK gs j).key) b j q.ng (aK gs j).W (aK gs j).m (az (aK gs j).L (aK gs j).G (aK gs j).C) (ae (aK gs j).T))) (rV q gs b j) (qJ (17+3*gs.length) j) w) b2 {t:=tG k F (.own 16 gs.length 1) ((i:Int)+1),nt:=86,H:=hG q 22 (w9 gs.length (λj=>(aK gs j).key) b j q.ng g.W g.m (az g.L g.G g.C) (ae g.T)),df:=[]} a1 w1:=by
  rw[bq,bs];exact r2
 obtain⟨P,hx,_,r3⟩:=pJ (s:=Fx q k gs.length F (λj=>(aK gs j).key) b j q.ng (aK gs j).W (aK gs j).m (az (aK gs j).L (aK gs j).G (aK gs j).C) (ae (aK gs j).T) (az g.L g.G g.C) (ae g.T) (i:Int) false) (SB':={t:=tG k F (.own 16 gs.length 1) ((i:Int)+1),nt:=86,H:=w7 q gs b j g,df:=[]}) X hs b3 b1 (λl=>tt _ l) rfl ⟨rfl,rfl⟩
 have b4:∀l,l<gs.length->∃N,P (17+3*l)=i_ (b l,N):=λl hl=>by
  obtain⟨N,e⟩:=hb l hl
  exact⟨N,hx _ _ e⟩
 have back:∀l,l<gs.length->∀v,VR P (.addr (b l) 0) v->VR P (.ptr (17+3*l) 0 0 0) v:=λl hl v hv=>by
  obtain⟨N,e⟩:=b4 l hl
  refine oO.2 ⟨b l,N,e,?_⟩
  simpa only[VR]using hv
 have ap:(w7 q gs b j g).get 15= .cT gs.length (λj=>(aK gs j).key) (λj=> .addr (b j) 0) (i_ (j,.ptr (17+3*j) 0 0 0)):=by
  rw[eZ,if_pos O]
  unfold mj
  rw[if_neg O,if_neg O,if_neg O,if_neg O,if_neg O,dB,if_neg O,if_pos A]
 have a6:(w7 q gs b j g).get 16= .rows gs.length 1 (eW b) (.ty 89):=by
  rw[eZ,if_pos O]
  unfold mj
  rw[if_neg O,if_neg O,if_neg O,if_neg O,if_neg O,dB,if_pos A]
 have r4:=G8 (L:=16) r3.heap zC ap a6 (λ_=>rfl) (λl hl=> .inr λv hv=>back l hl v hv) λl hl v hv=>back l hl v (aU.aL.1 hv).1
 have S:∀l,(((w7 q gs b j g).set 15 (.cT gs.length (λj=>(aK gs j).key) (λj=> .ptr (17+3*j) 0 0 0) m_)).set 16 (.rows gs.length 1 oe (.ty 89))).get l=if l=16 then .rows gs.length 1 oe (.ty 89)else if l=15 then .cT gs.length (λj=>(aK gs j).key) (λj=> .ptr (17+3*j) 0 0 0) m_ else if l<17+3*gs.length+2 then mj q gs b j g l else .dead:=λl=>by
  rw[n_,n_,eZ]
 have o:∀l,l<17+3*gs.length->l≠17+3*j+1->l≠17+3*j+2->yb (17+3*gs.length) j l=l:=λl h h1 h2=>by unfold yb;rw[if_neg h1,if_neg h2,if_pos h]
 have a7:yb (17+3*gs.length) j (17+3*j+1)=17+3*gs.length:=by unfold yb;rw[if_pos A]
 have a8:yb (17+3*gs.length) j (17+3*j+2)=17+3*gs.length+1:=by unfold yb;rw[if_neg O,if_pos A]
 have r:(gs.set j g).length=gs.length:=List.length_set
 have bc:AH.Le 16 (yb (17+3*gs.length) j) (((w7 q gs b j g).set 15 (.cT gs.length (λj=>(aK gs j).key) (λj=> .ptr (17+3*j) 0 0 0) m_)).set 16 (.rows gs.length 1 oe (.ty 89))) (fB q (gs.set j g)):=by
  refine⟨?_,λl hl=>o l O O O,λl hl=>?_,λl=>?_,λl l' _ _ e _=>?_,λl hl=>w5 hl⟩
  ·show 16<=17+3*(gs.set j g).length;omega
  ·have hl:17+3*(gs.set j g).length<=l:=hl
   rw[r]at hl
   show 17+3*gs.length+2<=yb _ _ l
   unfold yb
   rw[if_neg O,if_neg O,if_neg O];omega
  ·rcases w6 gs.length l with h|rfl|rfl|rfl|⟨i',d,hi,u,rfl⟩|h
   ·refine .inr (.inl ?_)
    rw[lE h,o l O O O,S,if_neg O,if_neg O,if_pos O]
    unfold mj
    rw[if_neg O,if_neg O,if_neg O,if_neg O,if_neg O,dB,if_neg O,if_neg O,lE h]
    exact G9 (λj Q=>o j O O O) l
   ·refine .inr (.inl ?_)
    rw[oQ,o 14 O O O,S,if_neg O,if_neg O,if_pos O]
    unfold mj
    rw[if_neg O,if_neg O,if_neg O,if_neg O,if_neg O,dB,if_neg O,if_neg O,oQ]
    exact⟨iY _ _,rfl⟩
   ·refine .inr (.inl ?_)
    rw[w4,o 15 O O O,S,if_neg O,if_pos A]
    refine⟨r.symm,λl hl=>?_,λl hl=>⟨(o _ O O O).symm,rfl,rfl,rfl⟩,λ_ _ e=>zG⟩
    show(aK gs l).key=(aK (gs.set j g) l).key
    rw[gg Q]
    by_cases h:l=j
    ·rw[if_pos h,bi,h]
    ·rw[if_neg h]
   ·refine .inr (.inl ?_)
    rw[y3,o 16 O O O,S,if_pos A]
    exact⟨r.symm,rfl,λl hl=>⟨⟨(o _ O O O).symm,rfl,rfl,rfl⟩,trivial⟩,rfl⟩
   ·refine .inr (.inl ?_)
    rw[lV (by rw[r];exact hi) u,gg Q]
    by_cases bd:i'=j
    ·subst bd
     rw[if_pos A]
     match d,u with
     |0,_=>
      rw[Nat.add_zero,o _ O O O,S,if_neg O,if_neg O,if_pos O]
      unfold mj
      rw[if_pos A]
      exact⟨⟨⟨rfl,rfl,λi _=>jw _ _ i⟩,⟨a7.symm,rfl,rfl⟩,⟨a8.symm,rfl,rfl⟩,trivial⟩,rfl⟩
     |1,_=>
      rw[a7,S,if_neg O,if_neg O,if_pos O]
      unfold mj
      rw[if_neg O,if_neg O,if_neg O,if_pos A]
      exact⟨rfl,rfl,λi _=>kS _ _ _ _ i,rfl⟩
     |2,_=>
      rw[a8,S,if_neg O,if_neg O,if_pos O]
      unfold mj
      rw[if_neg O,if_neg O,if_neg O,if_neg O,if_pos A]
      exact⟨rfl,rfl,λi _=>jw _ _ i,rfl⟩
    ·rw[if_neg bd,o _ O O O,S,if_neg O,if_neg O,if_pos O]
     unfold mj
     rw[if_neg O,if_neg O,if_neg O,if_neg O,if_neg O,dB,if_neg O,if_neg O,lV hi u]
     exact Hb u λe=>⟨o _ O O O,o _ O O O⟩
   ·exact .inl (w5 (by rw[r];exact h))
  ·unfold yb at e
   split at e<;>split at e<;>(try split at e)<;>(try split at e)<;>(try split at e)<;>(try split at e)<;>omega
 have r5:=r4.view bc (by rw[J];decide) hE
 refine⟨rfl,_,(iU.of hx).trans (bc.ext P),⟨r3.tmp.1,λl=>?_⟩,r5,r3.df⟩
 refine VR.le _ _ _ ?_ (r3.tmp.2 l)
 show l_ _ (cR (tG k F (.own 16 gs.length 1) ((i:Int)+1)) l) (cR (tG k F (.own 16 (gs.set j g).length 1) ((i:Int)+1)) l)
 rw[r]
 exact NS (o 14 O O O) (o 15 O O O) (show l_ _ (.own 16 gs.length 1) (.own 16 gs.length 1)from⟨(o 16 O O O).symm,rfl,rfl⟩) l
end
end Go.Sx
