/- The proof of a statement of the seat, part 44. -/
import Derived.Test.YtleifmkjbmhlpaaGreatDoorX43
import Derived.Test.YtleifmkjbmhlpaaGreatDoorX40
set_option linter.all false
set_option linter.defProp false
set_option maxRecDepth 1000000
namespace Go.Sx
open Go
open Go.IntKind renaming i64->M
open AH renaming get_set_same->z,aL->b_,bz->f_
open Int renaming ofNat->a_,toNat->c_
noncomputable section
def Wt(t)(k):0<(mo t k).length:=by
 unfold mo;cases t with
 |leaf x=>unfold aR;grind
 |node l r=>unfold aR;grind
def TI(m)(F)(a b)(j)(d:j<m+a.length+b.length):ow (m+a.length) (ow m F a) b j=ow m F (a++b) j:=by
 unfold ow;by_cases h1:j<m
 ·rw[gj h1,gj O];rfl
 ·rw[lR h1];by_cases c:j<m+a.length
  ·rw[gj c]
   grind
  ·rw[lR c]
   grind
def JM{l r}(hl:Reads l)(V:Reads r)(b:bP (kD l+kD r)=kD l)(C:kD l+kD r<=1000000)(OZ:cQ (aq l)=true)(D:cQ (aq r)=true)(k)(n0)(c)(P)(m)(F)(e:qb k=true)(q:wW (dj::(mo l k++mo r k)) P)(E:(dj::(mo l k++mo r k)).length<=c)(W:c<=1000000)(G:m+(ops l k++ops r k).length<=1000000)(h:bB P=true)(n:bB F=true):
  af PP II 54 [.ptr 12 0 0 0,.int M ((kD l+kD r:Nat):Int)] (qv k n0 c P m F) (.ret (.agg (di (bc (aq l) (aq r)))) (ov k n0 (c-(dj::(mo l k++mo r k)).length) (λi=>P ((dj::(mo l k++mo r k)).length+i)) (m+(ops l k++ops r k).length) (ow m F (ops l k++ops r k)))):=by
 have H:=AO q;have pl:=Wt l k;have X:=sq l;have Z:=sq r;simp only[List.length_cons,List.length_append]at E G⊢;have hP:∀j,j<(mo l k++mo r k).length->P (1+j)=cA ((mo l k++mo r k).getD j dj):=λj d=>by
  have:=q (j+1) (by simp at d⊢;omega)
  grind
 have s:∀x,Reads (if x=c-1 then l else r):=λx=>by split<;>assumption
 have en:a_ c=(c:Int):=rfl;have I:c_ (a_ c-1)=c-1:=O;have J:c_ ((kD l+kD r:Nat):Int)=kD l+kD r:=O;have t:jz dj (λj=>P (j+1))=P:=H.symm;have u:∀i,jz dj (λj=>P (j+1)) (1+i)=P (1+i):=λi=>by rw[t]
 have o:bB (λi=>jz dj (λj=>P (j+1)) (1+i))=true:=iP λσ j=>by rw[u];exact⟨fO h σ _,dI h σ _⟩
 have K:jO l k (a_ (kD l)) (c-1) (λi=>jz dj (λj=>P (j+1)) (1+i)) m F=true:=vZ ⟨rfl,e,λj d=>by
   grind,O,O,O,o,n⟩
 have L:jO r k (((kD l+kD r:Nat):Int)-a_ (kD l)) (lY l k (c-1)) (sV l k λi=>jz dj (λj=>P (j+1)) (1+i)) (fR l k m) (px l k m F)=true:=vZ ⟨Y,e,λj d=>by
   show jz dj _ (1+((mo l k).length+j))=_
   grind,by show _<=c-1-(mo l k).length;omega,by show c-1-(mo l k).length<=_;omega,by show m+(ops l k).length+_<=_;omega,iP λσ j=>⟨fO o σ _,dI o σ _⟩,ss n⟩
 have w:an (fR r k (fR l k m)) (px r k (fR l k m) (px l k m F)) (ow m F (ops l k++ops r k)):=λj d σ=>by show bj.le σ (ow (m+(ops l k).length) (ow m F (ops l k)) (ops r k) j) _;rw[TI m F _ _ j d];exact dI (ss n) σ j
 have y:an (lY r k (lY l k (c-1))) (sV r k (sV l k λi=>jz dj (λj=>P (j+1)) (1+i))) (λi=>P ((mo l k).length+(mo r k).length+1+i)):=λj _ σ=>by show bj.le σ (jz dj _ (1+((mo l k).length+((mo r k).length+j)))) _;rw[u,show 1+((mo l k).length+((mo r k).length+j))=(mo l k).length+(mo r k).length+1+j by omega];exact dI h σ _
 have N:lY r k (lY l k (c-1))=c-((mo l k).length+(mo r k).length+1):=by show c-1-(mo l k).length-(mo r k).length=_;omega
 have Q:fR r k (fR l k m)=m+((ops l k).length+(ops r k).length):=by show m+(ops l k).length+(ops r k).length=_;omega
 have R:lY l k (c-1)≠c-1:=by show c-1-(mo l k).length≠_;omega
 have i1:=AP (aq l);have i2:=AP (aq r);have p:=e;obtain⟨nw,f,ng,g,a,fl,nu,de,top⟩:=k;obtain⟨S,T,q3⟩:=qc p;have f1:=tB S;have U:=tC T;have v:=OI (λx=>if x=c-1 then l else r) s (aq l) (aq r) (bc (aq l) (aq r)) ((kD l+kD r:Nat):Int) nw f ng g a fl nu de top n0 c (c-((mo l ⟨nw,f,ng,g,a,fl,nu,de,top⟩).length+(mo r ⟨nw,f,ng,g,a,fl,nu,de,top⟩).length+1)) (λj=>P (j+1)) (λi=>P ((mo l ⟨nw,f,ng,g,a,fl,nu,de,top⟩).length+(mo r ⟨nw,f,ng,g,a,fl,nu,de,top⟩).length+1+i)) m (m+((ops l ⟨nw,f,ng,g,a,fl,nu,de,top⟩).length+(ops r ⟨nw,f,ng,g,a,fl,nu,de,top⟩).length)) F (ow m F (ops l ⟨nw,f,ng,g,a,fl,nu,de,top⟩++ops r ⟨nw,f,ng,g,a,fl,nu,de,top⟩)) A A A A A A A A;rw[t]at v;simp only[I,if_pos,if_neg R,J,b]at v;refine af.of_heap fU [TG (λx=>if x=c-1 then l else r) s,EK,TH (aq l) (aq r),wV] (aX PP II []) 1000 (v.mpr ?_);refine aaA O λ_=>?_
 refine ZE _ _ Y (ZE _ _ Y ?_);refine aaA (λ_=>?_) O;refine ZE _ _ Y (ZE _ _ (show(Nat.beq m m&&true&&true&&jO l ⟨nw,f,ng,g,a,fl,nu,de,top⟩ (a_ (kD l)) (c-1) (λi=>jz dj (λj=>P (j+1)) (1+i)) m F)=true by rw[K,qy];rfl) ?_);refine ZE _ _ Y (ZE _ _ zA (ZE _ _ (ai Y Y) ?_));refine ZE _ _ (show(Nat.beq (fR l ⟨nw,f,ng,g,a,fl,nu,de,top⟩ m) (fR l ⟨nw,f,ng,g,a,fl,nu,de,top⟩ m)&&true&&true&&jO r ⟨nw,f,ng,g,a,fl,nu,de,top⟩ (((kD l+kD r:Nat):Int)-a_ (kD l)) (lY l ⟨nw,f,ng,g,a,fl,nu,de,top⟩ (c-1)) (sV l ⟨nw,f,ng,g,a,fl,nu,de,top⟩ λi=>jz dj (λj=>P (j+1)) (1+i)) (fR l ⟨nw,f,ng,g,a,fl,nu,de,top⟩ m) (px l ⟨nw,f,ng,g,a,fl,nu,de,top⟩ m F))=true by rw[L,qy];rfl) ?_;refine ZE _ _ zA (ZE _ _ (show(OH (aq l) (di (aq l))&&OH (aq r) (di (aq r))&&cQ (aq l)&&cQ (aq r))=true by grind) ?_)
 repeat' (first|with_reducible refine aag A ?_|with_reducible refine aan A ?_|with_reducible refine aan Q ?_|with_reducible refine aan N ?_|with_reducible refine aaY A ?_|with_reducible refine And.intro ?_ ?_|with_reducible exact f1|with_reducible exact U|with_reducible exact w|with_reducible exact y|exact w|exact y|exact trivial)
def GR:Tree->Prop
 | .leaf x=>bE x=true
 | .node l r=>GR l/\GR r/\bP (kD l+kD r)=kD l/\cQ (aq l)=true/\cQ (aq r)=true/\kD l+kD r<=1000000
def sw:∀t,GR t->Reads t
 | .leaf x,hx=>λk n0 r P m F g a b h i j n=>by
  have hx:bE x=true:=hx;cases he:fV k.nw (aF k.f) (aO x)with
  |true=>
   have d:aR (fV k.nw (aF k.f)) (.leaf x)=[jD (aO x)]:=by unfold aR;rw[he]
   have e:jV (fV k.nw (aF k.f)) (.leaf x)=[]:=by unfold jV;rw[he]
   rw[d]at a b⊢;rw[e];exact uW (t:=.leaf x) (aO x) A A A (by show 1<=1000000;omega) k n0 r P m F g he a b h j n
  |false=>
   have d:aR (fV k.nw (aF k.f)) (.leaf x)=[wF x]:=by unfold aR;rw[he]
   have e:jV (fV k.nw (aF k.f)) (.leaf x)=[x]:=by unfold jV;rw[he]
   rw[d]at a b⊢;rw[e]at i⊢;exact JK x hx k n0 r P m F g a b h i j n
 | .node l r,ht=>λk n0 c P m F g a b h i j n=>by
  obtain⟨p,q,s,u,or,o⟩:=ht;have w:=sq l;have y:=sq r;cases he:fV k.nw (aF k.f) (bc (aq l) (aq r))with
  |true=>
   have d:aR (fV k.nw (aF k.f)) (.node l r)=[jD (bc (aq l) (aq r))]:=by unfold aR;rw[he]
   have e:jV (fV k.nw (aF k.f)) (.node l r)=[]:=by unfold jV;rw[he]
   rw[d]at a b⊢;rw[e];have v:((bc (aq l) (aq r)).r.length:Int)=32*if(1:Int)<((kD l+kD r:Nat):Int)-1 then 1 else((kD l+kD r:Nat):Int)-1:=by rw[show(bc (aq l) (aq r)).r.length=32 from yV _];split<;>omega
   exact uW (t:=.node l r) (bc (aq l) (aq r)) A (yV _) v o k n0 c P m F g he a b h j n
  |false=>
   have d:aR (fV k.nw (aF k.f)) (.node l r)=dj::(mo l k++mo r k):=by unfold aR;rw[he];rfl
   have e:jV (fV k.nw (aF k.f)) (.node l r)=ops l k++ops r k:=by unfold jV;rw[he];rfl
   rw[d]at a b⊢;rw[e]at i⊢;exact JM (sw l p) (sw r q) s o u or k n0 c P m F g a b h i j n
def OJ:∀(d n)(F),cq d n=true->n<=1000000->(∀i,i<n->bE (F i)=true)->gx n F=true->GR (bp d n F)/\kD (bp d n F)=n:=by
 intro d
 induction d with
 |zero=>intro n F e _ _ _;simp only[cq,ba]at e;have a:=fT e.1;have b:=fT e.2;simp at b;omega
 |succ d g=>
  intro n F e p f q;simp only[cq,ba]at e;have a:=fT e.1;have b:=fT e.2;have c:=List.all_eq_true.1 q;unfold bp;cases t:Nat.ble n 1 with
  |true=>
   have:n<=1:=by simp_all
   exact⟨f 0 O,by show 1=n;omega⟩
  |false=>
   have h:2<=n:=Y;have u:=mX h;have hl:=r7 (d:=d) h O;have j:cq d (bP n)=true:=by simp only[cq,ba];exact(by simp_all)
   have k:cq d (n-bP n)=true:=by simp only[cq,ba];exact⟨il O,il O⟩
   have fl:gx (bP n) F=true:=List.all_eq_true.2 λi hi=>c i (List.mem_range.2 (by have:=List.mem_range.1 hi;omega))
   have l:gx (n-bP n) (λi=>F (bP n+i))=true:=List.all_eq_true.2 λi hi=>c _ (List.mem_range.2 (by have:=List.mem_range.1 hi;omega))
   obtain⟨r,m⟩:=g (bP n) F j O (λi hi=>f i O) fl;obtain⟨s,o⟩:=g (n-bP n) (λi=>F (bP n+i)) k O (λi hi=>f _ O) l;refine⟨⟨r,s,?_,r8 _ _ _ j fl,r8 _ _ _ k l,?_⟩,?_⟩
   grind
   ·rw[m,o];omega
   ·show kD _+kD _=n;rw[m,o];omega
section
def Rel.JN{c ρ H w}(h:Rel c ρ H w){b}(s:b.nothing):Rel c ρ (H.new b) w:=by
 have m:ρ H.n=Option.none:=h.top _ (dP _);have i:∀l r N,ρ l=Option.some (r,N)->l≠H.n:=λl r N e t=>by rw[t,m]at e;cases e
 have g:∀l,l≠H.n->(H.new b).get l=H.get l:=λl e=>f_ _ _ e
 refine⟨λl=>?_,λl u r N v j d f o=>?_,λl r N d f=>?_,h.gY,h.size,h.os,h.output,h.tape,λl hl=>?_,h.eZ,λl r N q f=>?_,λl hl=>?_,λl hl=>?_,h.sY,λl r N d f=>?_,h.tJ,h.sZ⟩
 ·by_cases e:l=H.n
  ·subst e;rw[AH.jY,m];exact bn.ym s
  ·rw[g l e];exact h.eB l
 ·rw[g _ (i _ _ _ f)]at d;rw[g _ (i _ _ _ o)];exact h.sep l u r N v j d f o
 ·rw[g _ (i _ _ _ f)]at d;exact h.iB l r N d f
 ·exact h.top l (by simp[AH.new]at hl;omega)
 ·rw[g _ (i _ _ _ f)]at q;exact h.hid l r N q f
 ·obtain⟨a,b⟩:=h.env l hl;exact⟨by simp[AH.new];omega,b⟩
 ·have hl:H.n+1<=l:=hl;rw[g l O];exact h.low l O
 ·rw[g _ (i _ _ _ f)]at d;exact h.sy l r N d f
def Lr{ρ l e}:∀(cs)(vs),aV ρ (cs++[.aD]) vs->aV ρ (cs++[.own l 0 e]) vs
 |[],vs,h=>by simp only[List.nil_append,aV]at h⊢;obtain⟨u,us,rfl,b,c⟩:=h;refine⟨u,us,rfl,?_,c⟩;simp only[VR]at b⊢;exact .inl ⟨trivial,b⟩
 |a::cs,vs,h=>by simp only[List.cons_append,aV]at h⊢;obtain⟨u,us,e,b,c⟩:=h;exact⟨u,us,e,b,Lr cs us c⟩
def nG(H:AH)(lr:Nat)(cs:List AV)(a:Access)(F:Nat->List AV):AH:=(H.set lr (.cells (cs++[.own H.n 0 10]) a)).new (.rows 0 10 F (.ty 43))
def Rel.nG{c ρ H w}(h:Rel c ρ H w){lr cs a F}(f:H.get lr= .cells (cs++[.aD]) a):Rel c ρ (Sx.nG H lr cs a F) w:=by
 refine Rel.JN ?_ A;refine h.same A (λl hl=>?_) (λl=>?_) λl=>?_
 ·by_cases e:l=lr
  ·subst e;rw[z];rw[f]at hl;rcases hl with⟨h1,_⟩|⟨b,N,vs,rest,el,i,h1,j,h3,h4,m⟩
   ·simp at h1
   ·exact .inr ⟨b,N,vs,rest,el,i,h1,j,h3,Lr _ _ h4,m⟩
  ·rw[b_ _ _ (λd=>e d.symm)];exact hl
 ·by_cases e:l=lr
  ·subst e;rw[z,f];rfl
  ·rw[b_ _ _ (λd=>e d.symm)]
 ·by_cases e:l=lr
  ·subst e;rw[z,f];exact⟨(λd=>by cases d),(λd=>by cases d)⟩
  ·rw[b_ _ _ (λd=>e d.symm)]
def mA(q:Query):QC:=⟨q.nw,av q.C,q.ng,aN q.G,q.a,q.fl,q.nu,q.de,q.top⟩
open Classical in
def GS(q:Query)(k:QC):Bool:=decide (k=mA q)
open Classical in
def Wu{q:Query}{k:QC}(h:GS q k=true):k=mA q:=by
 unfold GS at h;exact py h
open Classical in
def OK(q:Query):GS q (mA q)=true:=by
 unfold GS;exact bK A
def nH(_:Nat):List AV:=[]
def af.Wv{f args a H H1 H2}(h:af PP II f args H (.ret a H1))(i:H2.n=H1.n)(b:∀l,H2.get l=H1.get l):af PP II f args H (.ret a H2):=by
 intro c ρ w vs hG j m;have post:∀e w',(CO.ret a H1).post c ρ e w'->(CO.ret a H2).post c ρ e w':=λe w' d=>by
  cases e with
  |returned v=>obtain⟨ρ',k1,k2,o⟩:=d;exact⟨ρ',k1,k2.same i (λl hl=>by rw[b l];exact hl) (λl=>by rw[b l]) (λl=>by rw[b l]),o⟩
  |panicked q=>exact d.elim
  |outgrown=>exact d.elim
 rcases h c ρ w vs hG j m with⟨k1,k2⟩|⟨v,w',k1,k2⟩
 ·exact .inl ⟨k1,k2.mono post⟩
 ·exact .inr ⟨v,w',k1,post _ _ k2⟩
def GU(H:AH)(lr:Nat)(cs:List AV)(m:Nat)(F:Nat->List AV):AH:=((H.set lr (.cells (cs++[.own (H.n+1) m 10]) (.ty 116))).new .dead).new (.rows m 10 F (.ty 43))
def JO{H lr}(cs ds)(m)(F)(l):(GU H lr ds m F).get l=((((nG H lr cs (.ty 116) nH).set lr (.cells (ds++[.own (H.n+1) m 10]) (.ty 116))).set H.n .dead).new (.rows m 10 F (.ty 43))).get l:=by
 unfold GU nG;simp only[AH.gR,AH.bk];show(if l=H.n+1 then _ else if l=H.n then _ else _)=if l=H.n+1 then _ else if l=H.n then _ else if l=lr then _ else if l=H.n then _ else _
 by_cases c:l=H.n+1
 ·rw[if_pos c,if_pos c]
 ·rw[if_neg c,if_neg c];by_cases a:l=H.n
  ·rw[if_pos a,if_pos a]
  ·rw[if_neg a,if_neg a,if_neg a];by_cases b:l=lr
   ·rw[if_pos b,if_pos b]
   ·rw[if_neg b,if_neg b,if_neg b]
def TJ{q T}(g:Reads T){H lr n0 r P ds}(hl:H.get lr= .cells (.int M n0::.ae r 29 P::ds++[.aD]) (.ty 116))(f:∀r P o,rv (mA q) n0 r P o= .int M n0::.ae r 29 P::ds++[o])
  (h:H.get 2= .cells bG .ro) (c1:12<=lr) (c2:lr<H.n) {n} (d:jO T (mA q) n r P 0 nH=true):af PP II 54 [.ptr lr 0 0 0,.int M n] H (.ret (.agg (Lq T)) (GU H lr (.int M n0::.ae (lY T (mA q) r) 29 (sV T (mA q) P)::ds) (fR T (mA q) 0) (px T (mA q) 0 nH))):=by
 obtain⟨rfl,i,j,k,m,p,s,e⟩:=Cw d;intro c ρ w vs hG t d;have b:=d.nG (cs:=.int M n0::.ae r 29 P::ds) (F:=nH) hl;have u:∀l,l≠H.n->l≠lr->(nG H lr (.int M n0::.ae r 29 P::ds) (.ty 116) nH).get l=H.get l:=λl v x=>by unfold nG;rw[f_ _ _ (show l≠(H.set lr _).n from v),b_ _ _ (λa=>x a.symm)]
 have key:=Cv (g (mA q) n0 r P 0 nH i j k m p s e) e (ss e) (H:=nG H lr (.int M n0::.ae r 29 P::ds) (.ty 116) nH) (lr:=lr) (lf:=H.n)
  (by rw[u 2 O O];exact h) c1 (by show lr<H.n+1;omega) O (by show H.n<H.n+1;omega) O b.low
  (by unfold nG;rw[f_ _ _ (show lr≠(H.set lr _).n by show lr≠H.n;omega),z,f])
  (by unfold nG;exact AH.jY _ _)
 have k2:af PP II 54 [.ptr lr 0 0 0,.int M (kD T:Int)] (nG H lr (.int M n0::.ae r 29 P::ds) (.ty 116) nH) (.ret (.agg (Lq T)) (GU H lr (.int M n0::.ae (lY T (mA q) r) 29 (sV T (mA q) P)::ds) (fR T (mA q) 0) (px T (mA q) 0 nH))):=key.Wv A (λl=>?_)
 ·exact k2 c ρ w vs hG t b
 rw[JO (.int M n0::.ae r 29 P::ds),f];rfl
def TK(q:Query)(T:Tree)(d:Reads T):ax PP II where
 f:=54
 spec X args H b _:=match args with
  |[.ptr lr 0 0 0,.int M n]=>match H.get lr with
   | .cells [.int M n0,.ae r 29 P,.ae nw 3 f,.ae ng 1 g,.int M a,.int M fl,.str nu,.str de,.int M top,.aD] (.ty 116)=>
    X.ag (QF H&&Nat.ble 12 lr&&Nat.blt lr H.n&&GS q ⟨nw,f,ng,g,a,fl,nu,de,top⟩&&jO T (mA q) n r P 0 nH) (b (.agg (Lq T)) (GU H lr [.int M n0,.ae (lY T (mA q) r) 29 (sV T (mA q) P),.ae nw 3 f,.ae ng 1 g,.int M a,.int M fl,.str nu,.str de,.int M top] (fR T (mA q) 0) (px T (mA q) 0 nH)))
   |_=>X.fail
  |_=>X.fail
 ok X sem hX args H b kp h:=by
  split at h
  ·rename_i lr n;split at h
   ·rename_i n0 r P nw f ng g a fl nu de top hl;obtain⟨c,i⟩:=hX.ag _ _ h;simp only[ba]at c;obtain⟨⟨⟨⟨j,c1⟩,c2⟩,c3⟩,k⟩:=c;have e:=Wu c3;exact⟨.ret _ _,i,TJ d (ds:=[.ae nw 3 f,.ae ng 1 g,.int M a,.int M fl,.str nu,.str de,.int M top]) hl (λr P o=>by rw[<-e];rfl) (kK j) (fT c1) (by rw[Nat.blt_eq]at c2;exact c2) k⟩
   ·exact zR
  ·exact zR
end
def v7(q:Query)(k:Nat)(F:Nat->ao):Nat:=xf q (bI q F k).length (tF q (xi q (bI q F k)))
def Bi(q:Query)(k:Nat)(F:Nat->ao)(j:Nat):Nat->Int:=mi (xi q (bI q F k)) (lk q (bI q F k).length (tF q (xi q (bI q F k))) j)
def Bj(q:Query)(k:Nat)(F:Nat->ao)(j:Nat):Nat->List UInt8:=lI q (xi q (bI q F k)) (lk q (bI q F k).length (tF q (xi q (bI q F k))) j)
def Ww(q:Query)(k:Nat)(F:Nat->ao):AV:=.bM [.ae (v7 q k F) 9 (br q.ng (Bi q k F) (Bj q k F)),.int M 0]
def Wx(q)(k)(F):TC q (bI q F k).length (xi q (bI q F k))=Ww q k F:=rfl
def Ls{q k F}(a:dl q=true)(b:bT k F=true):af PP II 26 [.agg (aZ q),cZ k F] HR (.ret (Ww q k F) HR):=by
 rw[<-Wx];exact Zh a b
end
end Go.Sx
