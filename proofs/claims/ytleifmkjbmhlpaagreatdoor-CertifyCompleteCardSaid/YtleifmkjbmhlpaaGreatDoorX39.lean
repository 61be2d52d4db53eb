/- The proof of a statement of the seat, part 39. -/
import Derived.Test.YtleifmkjbmhlpaaGreatDoorX38
import Derived.Test.YtleifmkjbmhlpaaGreatDoorX24
import Derived.Test.YtleifmkjbmhlpaaGreatDoorX19
import Derived.Test.YtleifmkjbmhlpaaGreatDoorX32
import Derived.Test.YtleifmkjbmhlpaaGreatDoorX30
set_option linter.all false
set_option linter.defProp false
set_option maxRecDepth 1000000
namespace Go.Sx
open Go
open AV renaming int->z,bM->n_,agg->o_
open Go.IntKind renaming i64->a_
open Int renaming ofNat->b_,le_trans->k_,toNat->p_
open Nat renaming beq->c_,ble->f_,blt->j_
open Tr renaming ofList->d_
noncomputable section
def vR(k)(n)(l):(Gn k n).get l=if l=14 then .cells [.fn 33 [] [.ptr 12 0 0 0,.ptr 13 0 0 0,.ptr 14 0 0 0]] (.ty 85)else if l=13 then .cells [.int a_ n,.aD] (.ty 38)else if l=12 then .cells (Gm k) (.ty 34)else .dead:=by
 simp only[Gn,AH.get,d_,Tr.bk,Tr.nK]
 grind
def xE(n lq lo lp a b c:Nat):Bool:=c_ lq a&&c_ lo b&&c_ lp c&&f_ 12 lq&&f_ 12 lo&&f_ 12 lp&&j_ lq n&&j_ lo n&&j_ lp n && !Nat.beq lq lo && !Nat.beq lq lp && !Nat.beq lo lp
def Oe(t:Tree)(k:QC)(n:Int)(y:qb k=true)(C:(aR (fV k.nw (aF k.f)) t).length<=1000000){H:AH}{lq lo lp:Nat}(b:xE H.n lq lo lp lq lo lp=true)
  (D:H.get lq= .cells (Gm k) (.ty 34)) (go:H.get lo= .cells [.int a_ n,.aD] (.ty 38)) (E:H.get lp= .cells [.fn 33 [] [.ptr lq 0 0 0,.ptr lo 0 0 0,.ptr lp 0 0 0]] (.ty 85)):
  af PP II 33 [dz t,.ptr lq 0 0 0,.ptr lo 0 0 0,.ptr lp 0 0 0] H (.ret (.bM []) ((H.set lo (.cells [.int a_ n,.own H.n (aR (fV k.nw (aF k.f)) t).length 29] (.ty 38))).new (.rows (aR (fV k.nw (aF k.f)) t).length 29 (gV 0 (λ_=>[]) (aR (fV k.nw (aF k.f)) t)) (.ty 48)))):=by
 have c:=Od t k n y C;have free:=ib (m:=0) (l:=aR (fV k.nw (aF k.f)) t) my;generalize (aR (fV k.nw (aF k.f)) t).length=a at*;generalize gV 0 (λ_=>[]) (aR (fV k.nw (aF k.f)) t)=s at*;simp only[xE,ba]at b;obtain⟨⟨⟨⟨⟨⟨⟨⟨⟨⟨⟨L,N⟩,P⟩,u⟩,v⟩,w⟩,F⟩,G⟩,r⟩,d⟩,g⟩,o⟩:=b;have u:=fT u;have v:=fT v;have w:=fT w;rw[Nat.blt_eq]at F G r;have d:=vQ d;have g:=vQ g;have o:=vQ o;have x:∀(q l:Nat),[lq,lo,lp][q]? =Option.some l->(q=0/\l=lq)∨(q=1/\l=lo)∨(q=2/\l=lp):=λq l h=>by
  grind
 refine c.Xc (ls:=[lq,lo,lp]) (H:=H) A (λi hi=>?_) (λi hi=>?_) (λq l h=>?_) (λq l h I=>?_) (λq Q l h R _ _=>?_) ?_ (λq l h I=>?_) (λp j=>?_) (λl hl J=>?_) A A ?_
 ·have hi:i<12:=hi;rw[vR,if_neg O,if_neg O,if_neg O]
 ·have hi:15<=i:=hi;rw[vR,if_neg O,if_neg O,if_neg O]
 ·show 12<=l/\l<H.n
  grind
 ·rcases x q l h with⟨rfl,rfl⟩|⟨rfl,rfl⟩|⟨rfl,rfl⟩
  all_goals assumption
 grind
 rfl
 ·rcases x q l h with⟨rfl,rfl⟩|⟨rfl,rfl⟩|⟨rfl,rfl⟩
  ·rw[AH.bz _ _ zM,AH.aL _ _ O,D];rfl
  ·rw[AH.bz _ _ zM,AH.get_set_same];rfl
  ·rw[AH.bz _ _ zM,AH.aL _ _ O,E];rfl
 ·show _=((D3 k n a s).get (12+3+j)).bx (pf 12 [lq,lo,lp] H.n);rw[rk];by_cases K:j=0
  ·subst K;rw[AH.gR];refine(if_pos (show H.n+0=H.n from rfl)).trans ?_;rw[if_pos A];show _=aae.rows a 29 (λi=>bj.bx _ (s i)) (.ty 48);congr 1;funext i;exact(fO free _ i).symm
  ·rw[AH.bz _ _ zM,AH.aL _ _ O,p _ O];rw[if_neg O,if_neg O,if_neg O,if_neg O];rfl
 ·have S:l≠lo:=λe=>by subst e;have:=J 1 A;rw[vR]at this;cases this
  rw[AH.bz _ _ zM,AH.aL _ _ O]
 ·show 12<=H.n;omega
def Gq{R:Type}(X:RI R):Spec R:=λargs H e _=>match args with
 |[a,.ptr lq 0 0 0,.ptr lo 0 0 0,.ptr lp 0 0 0]=>match H.get lq,H.get lo,H.get lp with
  | .cells [.ae nw 3 f,.ae ng 1 g,.int a_ _,.int a_ _,.str _,.str _,.int a_ _] (.ty 34),.cells [.int a_ n,.aD] (.ty 38),.cells [.fn 33 [] [.ptr b 0 0 0,.ptr c 0 0 0,.ptr d 0 0 0]] (.ty 85)=>
   X.ag (xE H.n lq lo lp b c d) (X.ag (jl (λ_=>True) a) (X.ag (ar 3 nw f&&ar 1 ng g&&kw nw (aF f)&&decide (fM nw f a<=1000000))
    (e (.bM []) ((H.set lo (.cells [.int a_ n,.own H.n (fM nw f a) 29] (.ty 38))).new (.rows (fM nw f a) 29 (sD nw f 0 (λ_=>[]) a) (.ty 48))))))
  |_,_,_=>X.fail
 |_=>X.fail
def aaH:ax PP II where
 f:=33
 spec X:=Gq X
 ok X sem hX args H D kp h:=by
  unfold Gq at h;split at h
  ·rename_i a lq lo lp;split at h
   ·rename_i nw f ng g j fl nu de top n l m o p go q;obtain⟨b,ha⟩:=hX.ag _ _ h;obtain⟨r,k⟩:=hX.ag _ _ ha;obtain⟨h3,d⟩:=hX.ag _ _ k;clear h ha k;have c:=b;simp only[xE,ba]at b;have s:=dV b.1.1.1.1.1.1.1.1.1.1.1;have u:=dV b.1.1.1.1.1.1.1.1.1.1.2;have v:=dV b.1.1.1.1.1.1.1.1.1.2;subst s u v;simp only[ba,bl]at h3;obtain⟨⟨⟨w,x⟩,y⟩,i⟩:=h3;obtain⟨t,ht,rfl,e⟩:=Cm r;unfold fM at i d;unfold sD at d;rw[e]at i d;have C:qb ⟨nw,f,ng,g,j,fl,nu,de,top⟩=true:=by unfold qb;rw[w,x,y];rfl
    exact⟨.ret (.bM []) _,d,Oe t ⟨nw,f,ng,g,j,fl,nu,de,top⟩ n C i c p go q⟩
   ·exact zR
  ·exact zR
abbrev Y9:List (ax PP II):=[nR,abr,Ky,aaH]
def Gr(n)(F)(q)(Q):(kh Y9 [] 12 [cZ n F,.agg (aZ q)] Q)=(let c:=(AV.bW [z a_ (Node.lo (aq (bp 20 n λi=>F i)) 0),z a_ (Node.lo (aq (bp 20 n λi=>F i)) 1),z a_ (Node.lo (aq (bp 20 n λi=>F i)) 2),z a_ (Node.lo (aq (bp 20 n λi=>F i)) 3),z a_ (Node.lo (aq (bp 20 n λi=>F i)) 4),z a_ (Node.lo (aq (bp 20 n λi=>F i)) 5),z a_ (Node.lo (aq (bp 20 n λi=>F i)) 6),z a_ (Node.lo (aq (bp 20 n λi=>F i)) 7),z a_ (Node.hi (aq (bp 20 n λi=>F i)) 0),z a_ (Node.hi (aq (bp 20 n λi=>F i)) 1),z a_ (Node.hi (aq (bp 20 n λi=>F i)) 2),z a_ (Node.hi (aq (bp 20 n λi=>F i)) 3),z a_ (Node.hi (aq (bp 20 n λi=>F i)) 4),z a_ (Node.hi (aq (bp 20 n λi=>F i)) 5),z a_ (Node.hi (aq (bp 20 n λi=>F i)) 6),z a_ (Node.hi (aq (bp 20 n λi=>F i)) 7),AV.str (Node.l (aq (bp 20 n λi=>F i))),AV.str (Node.r (aq (bp 20 n λi=>F i))),z a_ (ao.t (bJ (bp 20 n λi=>F i))),z a_ (ao.s (bJ (bp 20 n λi=>F i))),z a_ (ao.v (bJ (bp 20 n λi=>F i))),z a_ (ao.w (bJ (bp 20 n λi=>F i))),z a_ (ao.o (bJ (bp 20 n λi=>F i))),z a_ (ao.p (bJ (bp 20 n λi=>F i))),z a_ (ao.d (bJ (bp 20 n λi=>F i))),z a_ (ao.l (bJ (bp 20 n λi=>F i))),z a_ (ao.h (bJ (bp 20 n λi=>F i))),z a_ (ao.b (bJ (bp 20 n λi=>F i))),cy (bp 20 n λi=>F i)] 0);(B (decide (n<=1000000)&&du n λi=>[z a_ (F i).t,z a_ (F i).s,z a_ (F i).v,z a_ (F i).w,z a_ (F i).o,z a_ (F i).p,z a_ (F i).d,z a_ (F i).l,z a_ (F i).h,z a_ (F i).b]) (ak (!bT n λi=>F i) (Q (n_ [o_ [z a_ 0,AV.aD],z a_ 210])) (B (ar 3 q.nw (av q.C)&&ar 1 q.ng (aN q.G)) (B (fx {nw:=q.nw,C:=aF (av q.C),ng:=q.ng,G:=λj=>q.G j,a:=q.a,fl:=q.fl,nu:=q.nu,de:=q.de,top:=q.top}) (ak (decide (b_ n>0)) (B (du n λi=>[z a_ (F i).t,z a_ (F i).s,z a_ (F i).v,z a_ (F i).w,z a_ (F i).o,z a_ (F i).p,z a_ (F i).d,z a_ (F i).l,z a_ (F i).h,z a_ (F i).b]) (B (cq 20 n) (B (gx n λi=>F i) (B (jl (λx=>True) c) (B (ar 3 q.nw (av q.C)&&ar 1 q.ng (aN q.G)&&kw q.nw (aF (av q.C))&&decide (fM q.nw (av q.C) c<=1000000)) (B ((List.all (List.range.loop (fM q.nw (av q.C) c) []) λi=>bj.free (sD q.nw (av q.C) 0 (λx=>[]) c i))&&decide (fM q.nw (av q.C) c<=fM q.nw (av q.C) c)) (Q (n_ [o_ [z a_ (b_ n),AV.ae (fM q.nw (av q.C) c) 29 (sD q.nw (av q.C) 0 (λx=>[]) c)],z a_ 0])))))))) (Q (n_ [o_ [z a_ (b_ n),AV.aD],z a_ 0])))))))):=U
def qd(ex):∀t,(aR ex t).length+1<=2*l8 t
 | .leaf x=>by unfold aR l8;split<;>exact dP _
 | .node l r=>by
  have a:=qd ex l;have b:=qd ex r;have h3:=tx l;have h4:=tx r;unfold aR l8;split
  ·simp only[List.length_singleton];omega
  ·simp only[List.length_cons,List.length_append];omega
def V6{ks T f args a0 a'}(c:∀σ,AV.le σ a0 a')(h:kh ks T f args (λa=>a=a0)):af PP II f args HB (.ret a' HB):=by
 obtain⟨o,d,g⟩:=iJ fU ks (aX PP II T) 1000 f args HB _ _ h;cases o with
 |ret a H1=>
  obtain⟨x,H2,k1,k2⟩:=lz RI.dX _ _ _ _ d;obtain⟨b,k1⟩:=aaZ k1;have k1:x=a0:=k1;subst k1;simp only[ba]at b;refine(g.yu k2).le (mM.of [] (ie.of (by rfl) A A A b.1 (fI.2 λl hl=>?_)) (c _));rw[Di];by_cases e:l=2
  ·subst e;rw[if_pos A];have i:sig HB.n [] H2.n 2=2:=rfl;have:=fT b.1;show if sig HB.n [] H2.n 2<H2.n then aae.le (sig HB.n [] H2.n) (H2.get (sig HB.n [] H2.n 2)) (aae.cells bG Access.ro)else _
   rw[i,if_pos O,kK b.2];exact⟨qQ _,trivial⟩
  ·rw[if_neg e];trivial
 |rL a H1=>exact d.elim
def mb(n:Nat)(F:Nat->ao)(nw:Nat)(C:Nat->Nat->Int):List Piece:=bif c_ n 0 then []else aR (fV nw C) (bp 20 n F)
def pp(n:Nat)(l:List Piece):AV:=.agg [.int a_ (b_ n),.ae l.length 29 (gV 0 (λ_=>[]) l)]
def dY(n:Nat)(F:Nat->ao):Bool:=bT n F&&(c_ n 0||(cq 20 n&&gx n F&&f_ n 400000))
def Gs(n)(l)(σ):AV.le σ (pp n l) (pp n l):=by
 refine⟨⟨rfl,rfl⟩,⟨rfl,rfl,λi hi=>?_⟩,trivial⟩;exact dI (ib my) σ i
def Of{n:Nat}{F q}(c:c_ n 0=false)(h:dY n F=true)(d:ar 3 q.nw (av q.C)=true)(f:ar 1 q.ng (aN q.G)=true)(h3:fx q=true)(h4:kw q.nw q.C=true):
  af PP II 12 [cZ n F,.agg (aZ q)] HB (.ret (.bM [pp n (mb n F q.nw q.C),.int a_ 0]) HB):=by
 unfold dY at h;unfold mb;rw[c]at h⊢;rw[cond_false];simp only[Bool.false_or,ba]at h;obtain⟨m,⟨g,o⟩,j⟩:=h;have j:=fT j;have p:n≠0:=λe=>by rw[e]at c;cases c
 have b:(aR (fV q.nw (aF (av q.C))) (bp 20 n F)).length<=1000000:=by have:=qd (fV q.nw (aF (av q.C))) (bp 20 n F);have hl:=(zp 20 n F 20 g O).1;omega
 refine yR (ks:=Y9) (T:=[]) (λσ=>⟨Gs _ _ σ,⟨rfl,rfl⟩,trivial⟩) ?_;refine(Gr n F q _).mpr ?_;refine ZE _ _ (by rw[bK (O:n<=1000000),Bool.true_and];exact dm n F) ?_;refine aaz (λh=>?_) λ_=>?_
 ·have h:(!bT n F)=true:=h;rw[m]at h;cases h
 refine ZE _ _ (by rw[d,f];rfl) (ZE _ _ ((lc q).trans h3) (aaz (λ_=>?_) λh=>?_))
 ·have r:qb ⟨q.nw,av q.C,q.ng,aN q.G,q.a,q.fl,q.nu,q.de,q.top⟩=true:=by unfold qb;rw[d,f];exact h4
  have ht:jl (λ_=>True) (dz (bp 20 n F))=true:=ll trivial;have k:fM q.nw (av q.C) (dz (bp 20 n F))=(aR (fV q.nw (aF (av q.C))) (bp 20 n F)).length:=pn _ _ _;have l:sD q.nw (av q.C) 0 (λ_=>[]) (dz (bp 20 n F))=gV 0 (λ_=>[]) (aR (fV q.nw (aF (av q.C))) (bp 20 n F)):=po _ _ _ _ _;refine ZE _ _ (dm _ _) (ZE _ _ g (ZE _ _ o (ZE _ _ ht (ZE _ _ ?_ (ZE _ _ ?_ ?_)))))
  ·show(ar 3 q.nw (av q.C)&&ar 1 q.ng (aN q.G)&&kw q.nw (aF (av q.C))&&decide (fM q.nw (av q.C) (dz (bp 20 n F))<=1000000))=true;rw[d,f,show kw q.nw (aF (av q.C))=true from h4,k];simp only[Bool.and_true,Bool.true_and,bl];exact b
  ·show((List.range (fM q.nw (av q.C) (dz (bp 20 n F)))).all (λi=>bj.free (sD q.nw (av q.C) 0 (λ_=>[]) (dz (bp 20 n F)) i))&&decide (fM q.nw (av q.C) (dz (bp 20 n F))<=fM q.nw (av q.C) (dz (bp 20 n F))))=true;rw[l,bK (dP _),Bool.and_true];refine List.all_eq_true.2 λi _=>?_
   show bj.free (cA _)=true;rfl
  ·show n_ [.agg [.int a_ (b_ n),.ae (fM q.nw (av q.C) (dz (bp 20 n F))) 29 (sD q.nw (av q.C) 0 (λ_=>[]) (dz (bp 20 n F)))],.int a_ 0]=_;rw[k,l];rfl
 ·have:=of_decide_eq_false h;have :¬ ((n:Int)>0):=this;omega
def Jo{F q}(h:dY 0 F=true)(a:ar 3 q.nw (av q.C)=true)(b:ar 1 q.ng (aN q.G)=true)(h3:fx q=true):
  af PP II 12 [cZ 0 F,.agg (aZ q)] HB (.ret (.bM [pp 0 (mb 0 F q.nw q.C),.int a_ 0]) HB):=by
 unfold dY at h;simp only[ba]at h;have c:=h.1;refine V6 (a0:=.bM [.agg [.int a_ 0,.aD],.int a_ 0]) (ks:=Y9) (T:=[]) (λσ=>⟨⟨⟨rfl,rfl⟩,rfl,trivial⟩,⟨rfl,rfl⟩,trivial⟩) ?_;refine(Gr 0 F q _).mpr ?_;refine ZE _ _ A ?_;refine aaz (λh=>?_) λ_=>?_
 ·have h:(!bT 0 F)=true:=h;rw[c]at h;cases h
 refine ZE _ _ (by rw[a,b];rfl) (ZE _ _ ((lc q).trans h3) (aaz (λh=>?_) λh=>rfl));exact absurd (py h) zC
def S9{n F q}(h:dY n F=true)(a:ar 3 q.nw (av q.C)=true)(b:ar 1 q.ng (aN q.G)=true)(h3:fx q=true)(h4:kw q.nw q.C=true):
  af PP II 12 [cZ n F,.agg (aZ q)] HB (.ret (.bM [pp n (mb n F q.nw q.C),.int a_ 0]) HB):=by
 cases c:c_ n 0 with
 |false=>exact Of c h a b h3 h4
 |true=>have:=dV c;subst this;exact Jo h a b h3
structure LW where
 (L:Nat) (F:Nat->ao) (M:Nat) (p:Nat->Piece)
def h4(w:LW):AH:={n:=18,t:=d_ [(17,.cells [.int a_ (b_ w.L),.ae w.M 29 (λj=>cA (w.p j))] (.ty 38))]}
def s4(w:LW)(i a:Int)(b:Bool):St:={t:=d_ [(5,.bool true),(6,cZ w.L w.F),(7,.ptr 17 0 0 0),(9,.int a_ a),(10,.bool b),(11,.int a_ i)],nt:=126,H:=h4 w,df:=[]}
def e4(w:LW)(a:Int)(b:Bool):GE:=.one (.x 0 {t:=d_ [(5,.bool true),(6,cZ w.L w.F),(7,.ptr 17 0 0 0),(9,.int a_ a),(10,.bool b)],nt:=126,H:=h4 w,df:=[]})
def h3(q:Query)(w:LW)(n:Nat)(F:Nat->ao):AH:={n:=20,t:=d_ [(0,.cells [.ae 5 2 aC] .ro),(17,.cells (aZ q) (.ty 34)),(18,.cells [.int a_ (b_ w.L),.ae w.M 29 (λj=>cA (w.p j))] (.ty 38)),(19,.rows n 10 (λj=>aB (F j)) (.ty 43))]}
def An(s:T8)(N:Int):Prop := ∃i,i<s.n/\s.K i=N
def Jp(q)(x)(j)(s):s.lo<=(eA q x j s).lo/\(eA q x j s).hi<=s.hi/\((eA q x j s).c=true->s.c=true)/\∀N,An s N->An (eA q x j s) N:=by
 refine⟨?_,?_,λh=>?_,λN h=>?_⟩
 ·simp only[eA];omega
 ·simp only[eA];omega
 ·simp only[eA,ba]at h;exact h.1
 ·obtain⟨i,d,b⟩:=h;by_cases a:q.C j 0=8/\q.C j 1=2/\eS (q.C j 2) s.K s.n=false
  ·refine⟨i,?_,?_⟩
   ·show i<if _ then _ else _
    rw[if_pos a];omega
   ·show(if _ then _ else _:Nat->Int) i=N;rw[if_pos a];have:c_ i s.n=false:=by
     cases e:c_ i s.n with
     |false=>rfl
     |true=>simp_all
    unfold dT;rw[this];exact b
  ·refine⟨i,?_,?_⟩
   ·show i<if _ then _ else _
    grind
   ·show(if _ then _ else _:Nat->Int) i=N
    grind
def Jq(q)(x)(j)(s)(h:q.C j 0=8):(q.C j 1=1->q.C j 2<=(eA q x j s).lo/\(eA q x j s).hi<=q.C j 2)/\(q.C j 1=2->An (eA q x j s) (q.C j 2))/\(q.C j 1=3->(eA q x j s).hi<=q.C j 2-1)/\(q.C j 1=4->q.C j 2<=(eA q x j s).lo):=by
 refine⟨λe=>⟨?_,?_⟩,λe=>?_,λe=>?_,λe=>?_⟩
 ·simp only[eA];omega
 ·simp only[eA];omega
 ·cases hi:eS (q.C j 2) s.K s.n with
  |true=>
   unfold eS at hi;obtain⟨i,d,c⟩:=List.any_eq_true.1 hi;have b :¬ (q.C j 0=8/\q.C j 1=2/\eS (q.C j 2) s.K s.n=false):=λa=>by
    have:=a.2.2;unfold eS at this
    grind
   have c:q.C j 2=s.K i:=by simpa using c
   refine⟨i,?_,?_⟩
   ·show i<if _ then _ else _
    grind
   ·show(if _ then _ else _:Nat->Int) i=_
    grind
  |false=>
   have b:q.C j 0=8/\q.C j 1=2/\eS (q.C j 2) s.K s.n=false:=⟨h,e,hi⟩;refine⟨s.n,?_,?_⟩
   ·show s.n<if _ then _ else _
    rw[if_pos b];omega
   ·show(if _ then _ else _:Nat->Int) s.n=_;rw[if_pos b];unfold dT;simp
 ·simp only[eA];omega
 ·simp only[eA];omega
def Ao(q)(x)(j):∀d,(lg q x j).lo<=(lg q x (j+d)).lo/\(lg q x (j+d)).hi<=(lg q x j).hi/\((lg q x (j+d)).c=true->(lg q x j).c=true)/\∀N,An (lg q x j) N->An (lg q x (j+d)) N
 |0=>Y
 |d+1=>by obtain⟨a,b,h3,h4⟩:=Ao q x j d;obtain⟨k1,k2,f,g⟩:=Jp q x (j+d) (lg q x (j+d));exact⟨k_ a k1,k_ k2 b,λe=>h3 (f e),λN e=>g N (h4 N e)⟩
def qe{q x}(h:(cY q x).hi<(cY q x).lo):gn q x=false:=by
 have :¬ ky q x>0:=by unfold ky fL;omega
 unfold gn
 grind
def Jr{q:Query}{x:ao}(u:fx q=true)(hx:x.l<=x.h)(v:iL q.nw q.C (cD (loI x) (hiI x))=true):gn q x=false:=by
 obtain⟨j,k,b⟩:=List.any_eq_true.1 v;have k:=List.mem_range.1 k;obtain⟨R,S,_⟩:=(gM u).2 j k;obtain⟨d,w⟩:∃d,q.nw=j+1+d:=⟨q.nw-(j+1),O⟩;obtain⟨m,o,e,g⟩:=Ao q x (j+1) d;rw[<-w]at m o e g;obtain⟨z1,z2,_,_⟩:=Ao q x 0 q.nw;rw[Nat.zero_add]at z1 z2;have z1:x.l<=(cY q x).lo:=z1;have z2:(cY q x).hi<=x.h:=z2;have m:(eA q x j (lg q x j)).lo<=(cY q x).lo:=m;have o:(cY q x).hi<=(eA q x j (lg q x j)).hi:=o;have e:(cY q x).c=true->(eA q x j (lg q x j)).c=true:=e;have g:∀N,An (eA q x j (lg q x j)) N->An (cY q x) N:=g;unfold FR zn at b;simp only[Bool.not_eq_true',je]at b;by_cases r:q.C j 0=8
 ·obtain⟨d1,y,D,E⟩:=Jq q x j (lg q x j) r;rw[r]at b;have b :¬ ((q.C j 1=1/\x.l<=q.C j 2/\q.C j 2<=x.h)∨(q.C j 1=2/\x.l<=x.h/\(x.l≠q.C j 2∨x.h≠q.C j 2))∨(q.C j 1=3/\x.l<=x.h/\x.l<q.C j 2)∨(q.C j 1=4/\x.l<=x.h/\q.C j 2<=x.h)):=b;by_cases F:q.C j 1=1
  ·have:=d1 F;exact qe O
  by_cases G:q.C j 1=3
  ·have:=D G;exact qe O
  by_cases H:q.C j 1=4
  ·have:=E H;exact qe O
  have I:q.C j 1=2:=O;by_cases p:(cY q x).hi<(cY q x).lo
  ·exact qe p
  obtain⟨i,J,L⟩:=g _ (y I);have s:0<sR (cY q x).lo (cY q x).hi (cY q x).K (List.range (cY q x).n):=by unfold sR;refine List.length_pos_of_mem (a:=i) (List.mem_filter.2 ⟨List.mem_range.2 J,?_⟩);rw[L,bK O,bK O];rfl
  have :¬ ky q x>0:=by unfold ky fL;omega
  unfold gn
  grind
 ·have P:Sz (q.C j 1) (lF x (q.C j 0) 0) (q.C j 2)=false:=by
   refine nJ ?_;have t:dn (cD (loI x) (hiI x)) (p_ (q.C j 0-1)*1+0)=lF x (q.C j 0) 0/\dn (cD (loI x) (hiI x)) (p_ (q.C j 0-1)*1+8)=lF x (q.C j 0) 0:=by generalize q.C j 0=f at*;have:f=1∨f=2∨f=3∨f=4∨f=5∨f=6∨f=7:=O;rcases this with rfl|rfl|rfl|rfl|rfl|rfl|rfl<;>exact⟨rfl,rfl⟩
   rw[t.1,t.2]at b;omega
  have:(cY q x).c=false:=by
   cases Q:(cY q x).c with
   |false=>rfl
   |true=>
    have:=e Q;simp only[eA,ba,Bool.or_eq_true,bl]at this
    grind
  unfold gn
  grind
section
open Small
end
end
end Go.Sx
