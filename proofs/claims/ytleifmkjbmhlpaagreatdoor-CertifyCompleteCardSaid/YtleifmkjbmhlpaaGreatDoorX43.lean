/- The proof of a statement of the seat, part 43. -/
import Derived.Test.YtleifmkjbmhlpaaGreatDoorX42
import Derived.Test.YtleifmkjbmhlpaaGreatDoorX38
set_option linter.all false
set_option linter.defProp false
set_option maxRecDepth 1000000
namespace Go.Sx
open Go
open Decidable renaming decide->M
open Int renaming ofNat->z,toNat->c_
open AV renaming int->a_,str->j_
open Go.IntKind renaming i64->b_
open Nat renaming blt->d_,beq->g_,ble->k_
open And renaming intro->e_
open List renaming length->f_,take->h_,drop->i_
noncomputable section
def GK(W):∀k,0<k->∃i,i<k/\k9 W k=W i
 |0,h=>O
 |1,_=>⟨0,O,by show(if W 0<W 0 then W 0 else W 0)=W 0;split<;>rfl⟩
 |k+2,_=>by
  obtain⟨i,hi,e⟩:=GK W (k+1) O;show ∃i,i<k+2/\(if W (k+1)<k9 W (k+1)then W (k+1)else k9 W (k+1))=W i
  grind
def GL(W):∀k,0<k->∃i,i<k/\dH W k=W i
 |0,h=>O
 |1,_=>⟨0,O,by show(if W 0>W 0 then W 0 else W 0)=W 0;split<;>rfl⟩
 |k+2,_=>by
  obtain⟨i,hi,e⟩:=GL W (k+1) O;show ∃i,i<k+2/\(if W (k+1)>dH W (k+1)then W (k+1)else dH W (k+1))=W i
  grind
def mj{x}(h:bE x=true):(0<=x.l/\x.l<=x.h/\x.h<=4398046511104)/\0<=x.b/\x.b<=24000:=by
 unfold bE at h
 grind
def AM{q x}(b:bE x=true){m}(a:m<mf q x):0<=iD q x m/\iD q x m<=4398046511104:=by
 obtain⟨⟨c,d,h3⟩,_⟩:=mj b;have a:m<(OZ q x (3*(q.nw+2))).length:=a;have:iD q x m∈OZ q x (3*(q.nw+2)):=by unfold iD;rw[List.getD_eq_getElem?_getD,oa a];exact List.getElem_mem _
 have:=V9 this;unfold OY K1 at this
 grind
def JI{q x}(f:fx q=true)(c:bE x=true)(d:gn q x=true):0<=qf q x/\qf q x<=4398046511104:=by
 obtain⟨⟨g,h,h3⟩,h4,j⟩:=mj c;unfold qf;rw[d];show 0<=(if q.a=1 then 1 else if q.fl=7 then x.b else match nk q x with|true=>x.l|false=>k9 (iD q x) (mf q x))/\(if q.a=1 then 1 else if q.fl=7 then x.b else match nk q x with|true=>x.l|false=>k9 (iD q x) (mf q x))<=4398046511104;split
 ·omega
 ·split
  ·omega
  ·split
   ·omega
   ·obtain⟨i,hi,e⟩:=GK (iD q x) (mf q x) (As f d);rw[e];exact AM c hi
def JJ{q x}(f:fx q=true)(c:bE x=true)(d:gn q x=true):0<=qg q x/\qg q x<=4398046511104:=by
 obtain⟨⟨g,j,h3⟩,h4,k⟩:=mj c;unfold qg;rw[d];show 0<=(if q.a=1 then 1 else if q.fl=7 then x.b else match nk q x with|true=>x.h|false=>dH (iD q x) (mf q x))/\(if q.a=1 then 1 else if q.fl=7 then x.b else match nk q x with|true=>x.h|false=>dH (iD q x) (mf q x))<=4398046511104;split
 ·omega
 ·split
  ·omega
  ·split
   ·omega
   ·obtain⟨i,hi,e⟩:=GL (iD q x) (mf q x) (As f d);rw[e];exact AM c hi
def AN{W m v}(h:gN W m)(a:0<=v/\v<=4398046511104):gN (kz W m v) (m+1):=λi hi=>by
 unfold kz;by_cases e:i=m;omega
 ·rw[if_neg e];exact h i O
structure GM (gs:List bu) (n:Nat):Prop where
 ms:∀a,a<gs.length->(aG gs a).m<=n
 lo:∀a,a<gs.length->gN (aG gs a).L (aG gs a).m
 hi:∀a,a<gs.length->gN (aG gs a).G (aG gs a).m
def Cu{q}(F)(b:fx q=true):∀i,(∀j,j<i->bE (F j)=true)->GM (bI q F i) i
 |0,_=>⟨λj a=>absurd a (by simp[bI]),λj a=>absurd a (by simp[bI]),λj a=>absurd a (by simp[bI])⟩
 |i+1,c=>by
  obtain⟨g,d,h3⟩:=Cu F b i λj a=>c j O
  show GM (lH q (bI q F i) i (F i)) (i+1);unfold lH;cases hp:gn q (F i)with
  |false=>exact⟨Y,d,h3⟩
  |true=>
   simp only[cond_true];have e:=JI b (c i O) hp;have f:=JJ b (c i O) hp;split
   ·rename_i j a;obtain⟨a,_⟩:=qi a;refine⟨λl hl=>?_,λl hl=>?_,λl hl=>?_⟩
    all_goals
     rw[List.length_set]at hl;rw[iR a];by_cases h:l=j
    grind
    grind
    ·rw[if_pos h];exact AN (d j a) e
    grind
    ·rw[if_pos h];exact AN (h3 j a) f
    grind
   ·refine⟨λl hl=>?_,λl hl=>?_,λl hl=>?_⟩
    all_goals
     simp only[List.length_append,List.length_cons,List.length_nil]at hl;rw[iS];by_cases h:l=(bI q F i).length
    grind
    grind
    ·rw[if_pos h];exactλ_ _=>e
    grind
    ·rw[if_pos h];exactλ_ _=>f
    grind
def OC{q k W C}(d:k<=1000)(a:gN W k)(b:fx q=true):bX (jx q k W C).1 (jx q k W C).2=true:=by
 unfold jx;have h:=oX C k;split
 ·obtain⟨j,f,e⟩:=gU (better:=λc=>M (c<0)) (R:=bZ q (aW C k) (ct C W k) (cn (aW (λi=>!C i) k) (ct (λi=>!C i) W k))) (aW (λi=>!C i) k);rw[e];have g:=dN O (si (ia (p:=C) a) (l9 (ia (p:=λi=>!C i) a)));cases j with
  |zero=>exact cW (dN O (ia a)) b
  |succ j=>exact cW (dR g O) b
 ·obtain⟨j,f,e⟩:=gU (better:=λc=>M (c<0)) (R:=bC q (cn k W)) k;rw[e];cases j with
  |zero=>exact cW (k:=0) (W:=λ_=>0) A b
  |succ j=>exact cW (dR (dN d (l9 a)) O) b
def OD{q k W C}(d:k<=1000)(a:gN W k)(b:fx q=true):bX (jy q k W C).1 (jy q k W C).2=true:=by
 unfold jy;have h:=oX C k;split
 ·obtain⟨j,f,e⟩:=gU (better:=λc=>M (c>0)) (R:=bZ q (aW C k) (ct C W k) (cV (aW (λi=>!C i) k) (ct (λi=>!C i) W k))) (aW (λi=>!C i) k);rw[e];have g:=dN O (si (ia (p:=C) a) (ma (ia (p:=λi=>!C i) a)));cases j with
  |zero=>exact cW (dN O (ia a)) b
  |succ j=>exact cW (dR g O) b
 ·obtain⟨j,f,e⟩:=gU (better:=λc=>M (c>0)) (R:=bC q (cV k W)) k;rw[e];cases j with
  |zero=>exact cW (k:=0) (W:=λ_=>0) A b
  |succ j=>exact cW (dR (dN d (ma a)) O) b
def tF(q:Query)(X:Nat->bu):Nat->Nat->List UInt8:=Ji (br q.ng (mi X) (lI q X))
def TC(q:Query)(n:Nat)(X:Nat->bu):AV:=.bM [.ae (xf q n (tF q X)) 9 (br q.ng (λj=>mi X (lk q n (tF q X) j)) λj=>lI q X (lk q n (tF q X) j)),.int b_ 0]
def GO(F):(bS λi=>aB (F i))=F:=rfl
def nC{k F}(h:bT k F=true):∀i,i<k->bE (F i)=true:=by
 unfold bT at h;simp only[ba,bl]at h;intro i hi;have:=List.all_eq_true.1 h.1.1 i (List.mem_range.2 hi);unfold tk at this
 grind
def nD{k F}(h:bT k F=true):k<=400:=by
 unfold bT at h
 grind
def uV(n:Nat)(X:Nat->bu):Prop := ∀i,i<n->(X i).m<=1000/\gN (X i).L (X i).m/\gN (X i).G (X i).m
def OE(q)(n)(X)(i)(hi:i<n)(o:n<=1000000)(c:dl q=true)(hX:uV n X)(j)(p:j=(i:Int))(Q)(hQ:Q):
  kr [uU q] [] 26 5001 15 (Wk q n X (mi X) (lI q X) c_) (λ_=>Wl q n (mi X) (lI q X)) (λi=>i+1) Q j:=by
 rw[GJ];obtain⟨b,d,hG⟩:=hX i hi;have e:c_ j=i:=O;have f:c_ (j+1)=i+1:=O;have r:z n=(n:Int):=rfl;rw[e,f];have g:nr (bw (X i).L (X i).G (X i).C)=(X i).L:=rfl;have h:ns (bw (X i).L (X i).G (X i).C)=(X i).G:=rfl;have k:ny (bw (X i).L (X i).G (X i).C)=(X i).C:=rfl;rw[g,h,k,pq,c,uN,dN b d,dN b hG];have rows:=K6 q.ng (mi X) (mi X) (lI q X) (lI q X) i i A A;have s:=ln (i+1) q.ng (mi X) (lI q X);have l:an n (TB q.ng X) (TB q.ng X):=λi _ σ=>⟨⟨⟨⟨rfl,rfl,λj _=>lG _ _ j⟩,⟨rfl,rfl,λj _=>sn _ _ _ _ j⟩,⟨rfl,rfl,λj _=>lG _ _ j⟩,trivial⟩,rfl⟩,trivial⟩
 have m:(M (i<=i)&&true&&true&&M ((i+1)*152<=140737488355328)&&true)=true:=by rw[bK (dP i),bK O];rfl
 have a:aJ b_ (j+1)=true:=ai O O;refine aaA (λ_=>?_) O;refine ZE _ _ Y (ZE _ _ A (ZE _ _ m (ZE _ _ a ?_)))
 repeat' (first|with_reducible refine aag A ?_|with_reducible refine aan A ?_|with_reducible refine aaY A ?_|with_reducible refine e_ ?_ ?_|with_reducible exact cM _ _|with_reducible exact dJ _ _|with_reducible exact bV|assumption|assumption|exact rows|exact l)
def Wm(q)(n:Nat)(X)(j)(b:j=(n:Int))(Q):
  kr [uU q] [] 26 5001 15 (Wk q n X (mi X) (lI q X) c_) (λ_=>Wl q n (mi X) (lI q X)) (λi=>i+1) Q j:=by
 rw[GJ];have a:c_ j=n:=O;have c:z n=(n:Int):=rfl;rw[a];have d:=ln n q.ng (mi X) (lI q X);refine aaA O (λ_=>?_)
 repeat' (first|with_reducible refine aag A ?_|with_reducible refine aan A ?_|with_reducible refine aaY A ?_|with_reducible refine e_ ?_ ?_|with_reducible exact cM _ _|with_reducible exact dJ _ _|with_reducible exact bV|grind|simp)
def TD(q)(n)(X)(a:n<=1000000)(b:dl q=true)(hX:uV n X):ay PP II false (az II 26 5001) 15 (Wk q n X (mi X) (lI q X) c_ 0) (Wl q n (mi X) (lI q X)):=by
 have key:=ay.of (ι:=Int) fU [uU q] (aX PP II []) 1000 (c:=az II 26 5001) (ir:=false) 15 (λj=> ∃i:Nat,j=(i:Int)/\i<=n) (λj=>Wk q n X (mi X) (lI q X) c_ j) (λ_=>Wl q n (mi X) (lI q X)) (λj=>n-j.toNat) (λj=>j+1) 0 A ⟨0,rfl,Nat.zero_le _⟩ λj d=>?_
 ·exact key
 obtain⟨i,hi,e⟩:=d;by_cases h:i<n
 ·exact OE q n X i h a b hX j hi _ Y
 ·exact Wm q n X j O _
def OF{q k F}(c:fx q=true)(b:bT k F=true):uV (bI q F k).length (xi q (bI q F k)):=λi hi=>by
 have f:=nD b;obtain⟨d,e,h3⟩:=Cu F c k (nC b);have a:=Wj q.ng (bI q F k).length (jg q.ng (bI q F k)) hi;exact⟨Nat.le_trans (d _ a) O,e _ a,h3 _ a⟩
def Wn{q n X}(a:fx q=true)(hX:uV n X):SS n (tF q X)=true:=List.all_eq_true.2 λi hi=>by
 obtain⟨b,c,h3⟩:=hX i (List.mem_range.1 hi);show(bX (jx q (X i).m (X i).L (X i).C).1 (jx q (X i).m (X i).L (X i).C).2&&bX (jy q (X i).m (X i).G (X i).C).1 (jy q (X i).m (X i).G (X i).C).2)=true;rw[OC b c a,OD b h3 a];rfl
def Wo(n g)(K)(S):((List.range n).all λi=>bj.free (br g K S i))=true:=List.all_eq_true.2 λ_ _=>rfl
def Zg(q)(n)(S):xf {nw:=q.nw,C:=aF (av q.C),ng:=q.ng,G:=λj=>q.G j,a:=q.a,fl:=q.fl,nu:=q.nu,de:=q.de,top:=q.top} n S=xf q n S:=rfl
def Wp(q)(n)(S):lk {nw:=q.nw,C:=aF (av q.C),ng:=q.ng,G:=λj=>q.G j,a:=q.a,fl:=q.fl,nu:=q.nu,de:=q.de,top:=q.top} n S=lk q n S:=rfl
def Wq{q k F}(n)(X)(e:dl q=true)(c:bT k F=true)(f:(bI q F k).length=n)(g:an n (qu q.ng n (jg q.ng (bI q F k))) (TB q.ng X))(b:n<=1000000)(d:SS n (tF q X)=true)
  (lp:ay PP II false (az II 26 5001) 15 (Wk q n X (mi X) (lI q X) c_ 0) (Wl q n (mi X) (lI q X))):kq [Lo q,nR,GI q,Xg] [(5001,15,Wk q n X (mi X) (lI q X) c_ 0,Wl q n (mi X) (lI q X))] 26 [.agg (aZ q),cZ k F] (λa=> ∀σ,AV.le σ a (TC q n X)):=by
 have o:=nD c;obtain⟨r1,l,p⟩:=iQ e;rw[Zf q k F n X (mi X) (lI q X) c_,GO,pq,e,c,Zg,Wp,f,kV r1 l,vP,Wo];rw[show Ji (br q.ng (mi X) (lI q X))=tF q X from rfl,d];have m:pw k (λi=>aB (F i))=true:=by unfold pw;rw[dm,Bool.true_and];exact List.all_eq_true.2 λi hi=>nC c i (List.mem_range.1 hi)
 have fl:=nA k F;have a1:(g_ n n&&bj.free (aZ q)&&true)=true:=by rw[qy];rfl
 have a2:(true&&true&&true&&k_ n 1000000)=true:=by rw[il b];rfl
 refine ZE _ _ A (ZE _ _ (by rw[dm,bK O];rfl) (aaz (λh=>zE) λ_=>?_));refine ZE _ _ (by rw[m,il O];rfl) ⟨lp,?_⟩
 repeat' (first|with_reducible refine aag A ?_|with_reducible refine aan A ?_|with_reducible refine aaY A ?_|with_reducible refine e_ ?_ ?_|with_reducible exact cM _ _|with_reducible exact dJ _ _|with_reducible exact bV|with_reducible exact g|with_reducible refine ZE _ _ a2 ?_|with_reducible refine ZE _ _ a1 ?_|refine ZE _ _ a1 ?_)
 exactλσ=>⟨⟨rfl,rfl,λi _=>⟨⟨rfl,rfl,λj _=>⟨⟨rfl,rfl⟩,trivial⟩⟩,rfl,rfl,rfl,rfl,rfl,rfl,rfl,rfl,trivial⟩⟩,⟨rfl,rfl⟩,trivial⟩
def Zh{q k F}(a:dl q=true)(b:bT k F=true):af PP II 26 [.agg (aZ q),cZ k F] HR (.ret (TC q (bI q F k).length (xi q (bI q F k))) HR):=by
 have d:=nD b;have c:=(ru q F k).len;have hX:=OF (iQ a).2.2 b;have lp:=TD q (bI q F k).length (xi q (bI q F k)) O a hX;exact wH (Wq _ _ a b A (AL _ _ _) O (Wn (iQ a).2.2 hX) lp)
def rv(k:QC)(n0:Int)(r:Nat)(P:Nat->List AV)(facts:AV):List AV:=[.int b_ n0,.ae r 29 P,.ae k.nw 3 k.f,.ae k.ng 1 k.g,.int b_ k.a,.int b_ k.fl,.str k.nu,.str k.de,.int b_ k.top,facts]
def qv(k:QC)(n0:Int)(r:Nat)(P:Nat->List AV)(m:Nat)(F:Nat->List AV):AH:={n:=14,t:=Tr.ofList [(2,.cells bG .ro),(12,.cells (rv k n0 r P (.own 13 m 10)) (.ty 116)),(13,.rows m 10 F (.ty 43))]}
def ov(k:QC)(n0:Int)(r:Nat)(P:Nat->List AV)(m:Nat)(F:Nat->List AV):AH:={n:=15,t:=Tr.ofList [(2,.cells bG .ro),(12,.cells (rv k n0 r P (.own 14 m 10)) (.ty 116)),(14,.rows m 10 F (.ty 43))]}
abbrev kbR(ks:List (ax PP II))(f:FuncId)(args:List AV)(H:AH)(a':AV)(H':AH):Prop:=ka ks (mO PP II []) 1000 f args H (λa H1=>qn H.n a H1 a' H' True) (λ_ _=>False)
def jz(p:Piece)(P:Nat->List AV)(j:Nat):List AV:=match j with|0=>cA p|j+1=>P j
def Wr(Q):(kb [] [] 55 [.bool true] Q)=(Q (AV.bM [])):=U
def Ws:af PP II 55 [.bool true] (AH.blank 12) (.ret (.bM []) (AH.blank 12)):=by
 refine bQ (ks:=[]) (T:=[]) (λ_=>trivial) ?_;rw[Wr]
def wV:ax PP II:=ax.pure 55
 (λX args a=>match args with
  |[.bool b]=>X.ag b (a (.bM []))
  |_=>X.fail)
 λX sem hX args a h=>by
  split at h
  ·rename_i b;obtain⟨c,d⟩:=hX.ag _ _ h;subst c;exact⟨_,d,λ_=>rfl,λ_=>rfl,Ws⟩
  ·exact zR
def GP(nd)(n)(nw)(f)(ng)(g)(a fl)(nu de)(top n0)(r q)(P u)(m)(F y){c}(C:c=(iL nw (aF f) [a_ b_ (nd.lo 0),a_ b_ (nd.lo 1),a_ b_ (nd.lo 2),a_ b_ (nd.lo 3),a_ b_ (nd.lo 4),a_ b_ (nd.lo 5),a_ b_ (nd.lo 6),a_ b_ (nd.lo 7),a_ b_ (nd.hi 0),a_ b_ (nd.hi 1),a_ b_ (nd.hi 2),a_ b_ (nd.hi 3),a_ b_ (nd.hi 4),a_ b_ (nd.hi 5),a_ b_ (nd.hi 6),a_ b_ (nd.hi 7)])){e}(D:e=(M (z (f_ nd.r)=32*if 1<n-1 then 1 else n-1))){j}(E:j=(aJ b_ (32*if 1<n-1 then 1 else n-1))):(kbR [qt,yS,wV] 54 [.ptr 12 0 0 0,.int b_ n] (qv ⟨nw,f,ng,g,a,fl,nu,de,top⟩ n0 r (jz (jD nd) P) m F) (.agg (di nd)) (ov ⟨nw,f,ng,g,a,fl,nu,de,top⟩ n0 q u m y))=(ak (M (z r=0)) False (B (M (0<z r)) (B (M (1<=z r)&&M (z r<=z r)) (B (ar 3 nw f&&ar 1 ng g) (B (kw nw (aF f)&&true&&true) (ak c (ak (M (z (f_ nd.l)=32)) (B (aJ b_ (n-1)) (B j (B e (B (ar 3 nw f&&ar 1 ng g) (B (kw nw (aF f)&&true&&true) (ak c (ak (M (z (f_ nd.l)=32)) (B (aJ b_ (n-1)) (B j (B e (zyN m (an m F y/\zyI n0 (bh (c_ (z r-1)) q (an (c_ (z r-1)) (λi=>jz {k:=3,x:={t:=0,s:=0,v:=0,w:=0,o:=0,p:=0,d:=0,l:=0,h:=0,b:=0},nd:=nd} P (1+i)) u/\zyN nw (zyR nw f (zyN ng (zyR ng g (zyI a (zyI fl (zyB nu (zyB de (zyI top (zyN m (zyI (nd.lo 0) (zyI (nd.lo 1) (zyI (nd.lo 2) (zyI (nd.lo 3) (zyI (nd.lo 4) (zyI (nd.lo 5) (zyI (nd.lo 6) (zyI (nd.lo 7) (zyI (nd.hi 0) (zyI (nd.hi 1) (zyI (nd.hi 2) (zyI (nd.hi 3) (zyI (nd.hi 4) (zyI (nd.hi 5) (zyI (nd.hi 6) (zyI (nd.hi 7) (zyB nd.l (zyB nd.r True)))))))))))))))))))))))))))))))))) False) False)))))) False) False)))))):=by subst_vars;kernel_rfl
def OG(x)(nw)(f)(ng)(g)(a fl)(nu de)(top n0)(r e)(P j)(m c)(F n):(kbR [qt,lA,yS,wV] 54 [.ptr 12 0 0 0,.int b_ 1] (qv ⟨nw,f,ng,g,a,fl,nu,de,top⟩ n0 r (jz (wF x) P) m F) (.agg (di (aO x))) (ov ⟨nw,f,ng,g,a,fl,nu,de,top⟩ n0 e j c n))=(ak (M (z r=0)) False (B (M (0<z r)) (B (M (1<=z r)&&M (z r<=z r)) (ak (M (x.t=x.t)&&(M (x.s=x.s)&&(M (x.v=x.v)&&(M (x.w=x.w)&&(M (x.o=x.o)&&(M (x.p=x.p)&&(M (x.d=x.d)&&(M (x.l=x.l)&&(M (x.h=x.h)&&(M (x.b=x.b)&&true)))))))))&&true) (B (bE x) (B (M (m<=m)&&true&&true&&M ((m+1)*80<=140737488355328)&&true) (B (M ((-4611686018427387903:Int)<=x.t)&&M (x.t<=4611686018427387903)&&(M ((-4611686018427387903:Int)<=x.s)&&M (x.s<=4611686018427387903))&&(M ((-4611686018427387903:Int)<=x.v)&&M (x.v<=4611686018427387903))&&(M ((-4611686018427387903:Int)<=x.w)&&M (x.w<=4611686018427387903))&&(M ((-4611686018427387903:Int)<=x.o)&&M (x.o<=4611686018427387903))&&(M ((-4611686018427387903:Int)<=x.p)&&M (x.p<=4611686018427387903))&&(M ((-4611686018427387903:Int)<=x.d)&&M (x.d<=4611686018427387903))&&(M ((-4611686018427387903:Int)<=x.l)&&M (x.l<=4611686018427387903))&&(M ((-4611686018427387903:Int)<=x.h)&&M (x.h<=4611686018427387903))&&(M ((-4611686018427387903:Int)<=x.b)&&M (x.b<=4611686018427387903))) (bh (m+1) c (an (m+1) (λi=>bif d_ i m then F i else h_ 10 (i_ (0+(i-m)*10) [a_ b_ x.t,a_ b_ x.s,a_ b_ x.v,a_ b_ x.w,a_ b_ x.o,a_ b_ x.p,a_ b_ x.d,a_ b_ x.l,a_ b_ x.h,a_ b_ x.b])) n/\zyI n0 (bh (c_ (z r-1)) e (an (c_ (z r-1)) (λi=>jz {k:=2,x:=x,nd:={lo:=λx=>0,hi:=λx=>0,l:=[],r:=[]}} P (1+i)) j/\zyN nw (zyR nw f (zyN ng (zyR ng g (zyI a (zyI fl (zyB nu (zyB de (zyI top (bh (m+1) c (zyI ((aO x).lo 0) (zyI ((aO x).lo 1) (zyI ((aO x).lo 2) (zyI ((aO x).lo 3) (zyI ((aO x).lo 4) (zyI ((aO x).lo 5) (zyI ((aO x).lo 6) (zyI ((aO x).lo 7) (zyI ((aO x).hi 0) (zyI ((aO x).hi 1) (zyI ((aO x).hi 2) (zyI ((aO x).hi 3) (zyI ((aO x).hi 4) (zyI ((aO x).hi 5) (zyI ((aO x).hi 6) (zyI ((aO x).hi 7) (zyB (aO x).l (zyB (aO x).r True)))))))))))))))))))))))))))))))))) False)))):=U
def kD:Tree->Nat
 | .leaf _=>1
 | .node l r=>kD l+kD r
def jV(ex:Node->Bool):Tree->List ao
 | .leaf x=>match ex (aO x)with|true=>[]|false=>[x]
 | .node l r=>match ex (bc (aq l) (aq r))with|true=>[]|false=>jV ex l++jV ex r
def ow(m:Nat)(F:Nat->List AV)(l:List ao)(j:Nat):List AV:=bif d_ j m then F j else aB (l.getD (j-m) dp)
def wW(a:List Piece)(P:Nat->List AV):Prop := ∀j,j<a.length->P j=cA (a.getD j dj)
def Reads(t:Tree):Prop := ∀(k:QC)(n0:Int)(r:Nat)(P:Nat->List AV)(m:Nat)(F:Nat->List AV),qb k=true->wW (aR (fV k.nw (aF k.f)) t) P->(aR (fV k.nw (aF k.f)) t).length<=r->r<=1000000->m+(jV (fV k.nw (aF k.f)) t).length<=1000000->bB P=true->bB F=true->
 af PP II 54 [.ptr 12 0 0 0,.int b_ (kD t:Int)] (qv k n0 r P m F) (.ret (.agg (di (aq t))) (ov k n0 (r-(aR (fV k.nw (aF k.f)) t).length) (λi=>P ((aR (fV k.nw (aF k.f)) t).length+i)) (m+(jV (fV k.nw (aF k.f)) t).length) (ow m F (jV (fV k.nw (aF k.f)) t))))
def sq:∀t,1<=kD t
 | .leaf _=>dP _
 | .node l r=>by have:=sq l;show 1<=kD l+kD r;omega
def AO{p a P}(h:wW (p::a) P):P=jz p (λj=>P (j+1)):=funext λj=>by
 cases j with
 |zero=>exact h 0 zA
 |succ j=>rfl
def ss{m F l}(h:bB F=true):bB (ow m F l)=true:=iP λσ j=>by
 unfold ow;cases d_ j m with
 |true=>exact⟨fO h σ j,dI h σ j⟩
 |false=>exact⟨rfl,dM _ _⟩
def TE{m F}(h:bB F=true):an m F (ow m F []):=λj a σ=>by
 unfold ow;rw[gj a];exact dI h σ j
def TF{m F}(h:bB F=true)(x):an (m+1) (λi=>bif d_ i m then F i else h_ 10 (i_ (0+(i-m)*10) (aB x))) (ow m F [x]):=λj a σ=>by
 show bj.le σ (bif d_ j m then F j else h_ 10 (i_ (0+(j-m)*10) (aB x))) (bif d_ j m then F j else aB ([x].getD (j-m) dp));by_cases h1:j<m
 ·rw[gj h1];exact dI h σ j
 ·have:j=m:=by omega
  subst this;rw[lR h1,Nat.sub_self,show 0+0*10=0 by omega];exact dM σ x
def uW{t}(nd)(J:aq t=nd)(l1:nd.l.length=32)(l2:(nd.r.length:Int)=32*if(1:Int)<(kD t:Int)-1 then 1 else(kD t:Int)-1)(x:kD t<=1000000)(k)(n0)(r)(P)(m)(F)(y:qb k=true)(b:fV k.nw (aF k.f) nd=true)(C:wW [jD nd] P)(K:1<=r)(L:r<=1000000)(D:bB P=true)(E:bB F=true):
  af PP II 54 [.ptr 12 0 0 0,.int b_ (kD t:Int)] (qv k n0 r P m F) (.ret (.agg (di nd)) (ov k n0 (r-1) (λi=>P (1+i)) m (ow m F []))):=by
 obtain⟨nw,f,ng,g,a,fl,nu,de,top⟩:=k;obtain⟨n,o,G⟩:=qc y;have p:=sq t;have q:=AO C;have e:an (c_ (z r-1)) (λi=>jz (jD nd) (λj=>P (j+1)) (1+i)) (λi=>P (1+i)):=λi _ σ=>by rw[<-q];exact dI D σ (1+i)
 have H:=TE (m:=m) E;have N:z r=(r:Int):=rfl;have s:c_ (z r-1)=r-1:=O;have f1:=tB n;have I:=tC o;have hx:iL nw (aF f) [.int b_ (nd.lo 0),.int b_ (nd.lo 1),.int b_ (nd.lo 2),.int b_ (nd.lo 3),.int b_ (nd.lo 4),.int b_ (nd.lo 5),.int b_ (nd.lo 6),.int b_ (nd.lo 7),.int b_ (nd.hi 0),.int b_ (nd.hi 1),.int b_ (nd.hi 2),.int b_ (nd.hi 3),.int b_ (nd.hi 4),.int b_ (nd.hi 5),.int b_ (nd.hi 6),.int b_ (nd.hi 7)]=true:=b;refine af.of_heap fU [qt,yS,wV] (aX PP II []) 1000 ?_;have v:=GP nd (kD t:Int) nw f ng g a fl nu de top n0 r (r-1) (λj=>P (j+1)) (λi=>P (1+i)) m F (ow m F []) A A A;rw[<-q]at v;refine v.mpr ?_;have Q:iL nw (aF f) (di nd).dropLast.dropLast=true:=b;have u:aJ b_ ((kD t:Int)-1)=true:=ai O O;have w:aJ b_ (32*if(1:Int)<(kD t:Int)-1 then 1 else(kD t:Int)-1)=true:=ai (by split<;>omega) (by split<;>omega);have c:z nd.l.length=32:=by rw[l1];rfl
 have d:z nd.r.length=32*if(1:Int)<(kD t:Int)-1 then 1 else(kD t:Int)-1:=l2
 have a1:(ar 3 nw f&&ar 1 ng g)=true:=by rw[n,o];rfl
 have a2:(kw nw (aF f)&&true&&true)=true:=by rw[G];rfl
 rw[hx,s];refine aaA O λ_=>?_
 refine ZE _ _ Y (ZE _ _ Y (ZE _ _ a1 (ZE _ _ a2 ?_)));refine aaz (λ_=>?_) λh=>zE
 refine aaA (λ_=>?_) λh=>absurd c h
 refine ZE _ _ u (ZE _ _ w (ZE _ _ (bK d) (ZE _ _ a1 (ZE _ _ a2 ?_))));refine aaz (λ_=>?_) λh=>zE
 refine aaA (λ_=>?_) λh=>absurd c h
 refine ZE _ _ u (ZE _ _ w (ZE _ _ (bK d) ?_));rw[s]at e
 repeat' (first|with_reducible refine aag A ?_|with_reducible refine aan A ?_|with_reducible refine aaY A ?_|with_reducible refine e_ ?_ ?_|with_reducible exact f1|with_reducible exact I|with_reducible exact H|with_reducible exact e|exact e|exact trivial)
def JK(x)(hx:bE x=true)(k)(n0)(r)(P)(m)(F)(h:qb k=true)(l:wW [wF x] P)(u:1<=r)(w:r<=1000000)(y:m+1<=1000000)(n:bB P=true)(o:bB F=true):
  af PP II 54 [.ptr 12 0 0 0,.int b_ 1] (qv k n0 r P m F) (.ret (.agg (di (aO x))) (ov k n0 (r-1) (λi=>P (1+i)) (m+1) (ow m F [x]))):=by
 obtain⟨nw,f,ng,g,a,fl,nu,de,top⟩:=k;obtain⟨p,q,C⟩:=qc h;have c:=AO l;have b:an (c_ (z r-1)) (λi=>jz (wF x) (λj=>P (j+1)) (1+i)) (λi=>P (1+i)):=λi _ σ=>by rw[<-c];exact dI n σ (1+i)
 have d:=TF (m:=m) o x;have D:z r=(r:Int):=rfl;have e:c_ (z r-1)=r-1:=O;have f1:=tB p;have s:=tC q;refine af.of_heap fU [qt,lA,yS,wV] (aX PP II []) 1000 ?_;have v:=OG x nw f ng g a fl nu de top n0 r (r-1) (λj=>P (j+1)) (λi=>P (1+i)) m (m+1) F (ow m F [x]);rw[<-c]at v;refine v.mpr ?_;have t:(M (m<=m)&&true&&true&&M ((m+1)*80<=140737488355328)&&true)=true:=by simp only[ba,Bool.and_true,bl];omega
 rw[e];rw[e]at b;refine aaA O λ_=>?_
 refine ZE _ _ Y (ZE _ _ Y ?_);refine aaz (λ_=>?_) zA;refine ZE _ _ hx (ZE _ _ t (ZE _ _ ?_ ?_))
 ·unfold bE at hx;simp only[ba,bl]at hx⊢
  grind
 repeat' (first|with_reducible refine aag A ?_|with_reducible refine aan A ?_|with_reducible refine aaY A ?_|with_reducible refine e_ ?_ ?_|with_reducible exact f1|with_reducible exact s|with_reducible exact d|with_reducible exact b|exact d|exact b|exact trivial)
def su(k)(n0)(r)(P)(m)(F)(l):(qv k n0 r P m F).get l=if l=2 then .cells bG .ro else if l=12 then .cells (rv k n0 r P (.own 13 m 10)) (.ty 116)else if l=13 then .rows m 10 F (.ty 43)else .dead:=lm _ _ _
def nF(k)(n0)(r)(P)(m)(F)(l):(ov k n0 r P m F).get l=if l=2 then .cells bG .ro else if l=12 then .cells (rv k n0 r P (.own 14 m 10)) (.ty 116)else if l=14 then .rows m 10 F (.ty 43)else .dead:=lm _ _ _
def wX(n lr lf l:Nat):Nat:=if l<12 then l else if l=12 then lr else if l=13 then lf else n+(l-14)
def GQ{n e F a}(h:bB F=true)(σ):aae.rows n e F a=(aae.rows n e F a).bx σ:=by
 show _=aae.rows n e (λi=>bj.bx σ (F i)) a;congr 1;funext i;exact(fO h σ i).symm
def Cv{k n0 n r f P i m a F c nd}(h:af PP II 54 [.ptr 12 0 0 0,.int b_ n] (qv k n0 r P m F) (.ret (.agg (di nd)) (ov k n0 f i a c)))(w:bB F=true)(v:bB c=true)
  {H lr lf} (x:H.get 2= .cells bG .ro) (a1:12<=lr) (a2:lr<H.n) (I:12<=lf) (a4:lf<H.n) (y:lr≠lf) (j:∀l,H.n<=l->H.get l= .dead) (C:H.get lr= .cells (rv k n0 r P (.own lf m 10)) (.ty 116)) (D:H.get lf= .rows m 10 F (.ty 43)):
  af PP II 54 [.ptr lr 0 0 0,.int b_ n] H (.ret (.agg (di nd)) (((H.set lr (.cells (rv k n0 f i (.own H.n a 10)) (.ty 116))).set lf .dead).new (.rows a 10 c (.ty 43)))):=by
 have o:wX H.n lr lf 12=lr:=rfl;have s13:wX H.n lr lf 13=lf:=rfl;have p:∀l,l<12->wX H.n lr lf l=l:=λl hl=>by unfold wX;rw[if_pos hl]
 have d:∀l,14<=l->wX H.n lr lf l=H.n+(l-14):=λl hl=>by unfold wX;grind
 have J:∀σ,aae.cells bG .ro=(aae.cells bG .ro).bx σ:=λσ=>rfl
 have b:∀l,(qv k n0 r P m F).get l≠ .dead->l=2∨l=12∨l=13:=λl q=>Classical.byContradiction λu=>q (by simp only[not_or]at u;rw[su,if_neg u.1,if_neg u.2.1,if_neg u.2.2])
 have E:Sub 12 (wX H.n lr lf) (qv k n0 r P m F) H :=
  {lt:=λl hl=>by
    have hl:l<14:=hl
    grind
   ge:=λl hl=>d l hl
   same:=λl q=>by
    rcases b l q with rfl|rfl|rfl
    assumption
    ·rw[o,C];rfl
    ·rw[s13,D];exact GQ w _
   inj:=Y
   eZ:=λg G=>⟨by show g<14;omega,p g G⟩
   low:=λl hl=>by
    have hl:14<=l:=hl
    grind}
 have s:∀l,(((H.set lr (.cells (rv k n0 f i (.own H.n a 10)) (.ty 116))).set lf .dead).new (.rows a 10 c (.ty 43))).get l=if l=H.n then .rows a 10 c (.ty 43)else if l=lf then .dead else if l=lr then .cells (rv k n0 f i (.own H.n a 10)) (.ty 116)else H.get l:=λl=>by
  by_cases e:l=H.n
  ·rw[if_pos e];subst e;rw[AH.gR];exact if_pos A
  ·rw[if_neg e,AH.bz _ _ zI,AH.bk,AH.bk]
 have ht:EE (wX H.n lr lf) (qv k n0 r P m F) (ov k n0 f i a c) H (((H.set lr (.cells (rv k n0 f i (.own H.n a 10)) (.ty 116))).set lf .dead).new (.rows a 10 c (.ty 43))):=
  {n:=rfl
   old:=λl q=>by
    rcases b l q with rfl|rfl|rfl
    ·rw[p 2 O,s,if_neg O,if_neg O,if_neg O,x,nF];rfl
    ·rw[o,s,if_neg O,if_neg y,if_pos A,nF];rfl
    ·rw[s13,s,if_neg O,if_pos A,nF];rfl
   new:=λl hl=>by
    have hl:14<=l:=hl;by_cases e:l=14
    ·subst e;rw[d 14 hl,s,if_pos O,nF,if_neg O,if_neg O,if_pos A];exact GQ v _
    ·rw[d l hl,s,if_neg O,if_neg O,if_neg O,j _ O,nF,if_neg O,if_neg O,if_neg e];rfl
   rest:=λl hl t=>by
    have n1:l≠lr:=λe=>t 12 (by rw[su];simp) O
    have K:l≠lf:=λe=>t 13 (by rw[su];simp) O
    grind}
 exact h.lift E ht
section
def mo(t:Tree)(k:QC):List Piece:=aR (fV k.nw (aF k.f)) t
def ops(t:Tree)(k:QC):List ao:=jV (fV k.nw (aF k.f)) t
open Classical in
def jO(t:Tree)(k:QC)(n:Int)(r:Nat)(P:Nat->List AV)(m:Nat)(F:Nat->List AV):Bool:=M (n=(kD t:Int)/\qb k=true/\wW (mo t k) P/\(mo t k).length<=r/\r<=1000000/\m+(ops t k).length<=1000000/\bB P=true/\bB F=true)
open Classical in
def Cw{t:Tree}{k:QC}{n:Int}{r:Nat}{P:Nat->List AV}{m:Nat}{F:Nat->List AV}(h:jO t k n r P m F=true):n=(kD t:Int)/\qb k=true/\wW (mo t k) P/\(mo t k).length<=r/\r<=1000000/\m+(ops t k).length<=1000000/\bB P=true/\bB F=true:=by
 unfold jO at h;exact py h
open Classical in
def vZ{t:Tree}{k:QC}{n:Int}{r:Nat}{P:Nat->List AV}{m:Nat}{F:Nat->List AV}(h:n=(kD t:Int)/\qb k=true/\wW (mo t k) P/\(mo t k).length<=r/\r<=1000000/\m+(ops t k).length<=1000000/\bB P=true/\bB F=true):jO t k n r P m F=true:=by
 unfold jO;exact bK h
def Lp(n lr lf:Nat):Bool:=k_ 12 lr&&d_ lr n&&k_ 12 lf&&d_ lf n && !Nat.beq lr lf
def lY(t:Tree)(k:QC)(r:Nat):Nat:=r-(mo t k).length
def sV(t:Tree)(k:QC)(P:Nat->List AV)(i:Nat):List AV:=P ((mo t k).length+i)
def fR(t:Tree)(k:QC)(m:Nat):Nat:=m+(ops t k).length
def px(t:Tree)(k:QC)(m:Nat)(F:Nat->List AV):Nat->List AV:=ow m F (ops t k)
def Lq(t:Tree):List AV:=di (aq t)
def TG(W:Nat->Tree)(l:∀r,Reads (W r)):ax PP II where
 f:=54
 spec X args H e _:=match args with
  |[.ptr lr 0 0 0,.int b_ n]=>match H.get lr with
   | .cells [.int b_ n0,.ae r 29 P,.ae nw 3 f,.ae ng 1 g,.int b_ a,.int b_ fl,.str nu,.str de,.int b_ top,.own lf m 10] (.ty 116)=>match H.get lf with
    | .rows i 10 F (.ty 43)=>X.ag (g_ m i&&QF H&&Lp H.n lr lf&&jO (W r) ⟨nw,f,ng,g,a,fl,nu,de,top⟩ n r P m F) (e (.agg (Lq (W r))) (((H.set lr (.cells (rv ⟨nw,f,ng,g,a,fl,nu,de,top⟩ n0 (lY (W r) ⟨nw,f,ng,g,a,fl,nu,de,top⟩ r) (sV (W r) ⟨nw,f,ng,g,a,fl,nu,de,top⟩ P) (.own H.n (fR (W r) ⟨nw,f,ng,g,a,fl,nu,de,top⟩ m) 10)) (.ty 116))).set lf .dead).new (.rows (fR (W r) ⟨nw,f,ng,g,a,fl,nu,de,top⟩ m) 10 (px (W r) ⟨nw,f,ng,g,a,fl,nu,de,top⟩ m F) (.ty 43))))
    |_=>X.fail
   |_=>X.fail
  |_=>X.fail
 ok X sem hX args H e kp h:=by
  split at h
  ·rename_i lr n;split at h
   ·rename_i n0 r P nw f ng g a fl nu de top lf m hl;split at h
    ·rename_i i F o;obtain⟨j,p⟩:=hX.ag _ _ h;simp only[ba]at j;obtain⟨⟨⟨q,s⟩,b⟩,t⟩:=j;cases dV q;unfold Lp at b;simp only[ba,Nat.blt_eq]at b;obtain⟨⟨⟨⟨c1,c2⟩,c3⟩,u⟩,v⟩:=b;obtain⟨rfl,x,y,C,D,E,G,d⟩:=Cw t;refine⟨.ret _ _,p,λc ρ w vs hG I k=>?_⟩;exact Cv (l r ⟨nw,f,ng,g,a,fl,nu,de,top⟩ n0 r P m F x y C D E G d) d (ss d) (kK s) (by simp_all) c2 (by simp_all) u (vQ v) k.low hl o c ρ w vs hG I k
    ·exact zR
   ·exact zR
  ·exact zR
end
section
open Classical in
def OH(x:Node)(cs:List AV):Bool:=M (cs=di x)
open Classical in
def JL{x:Node}{cs:List AV}(h:OH x cs=true):cs=di x:=by
 unfold OH at h;exact py h
open Classical in
def AP(x:Node):OH x (di x)=true:=by
 unfold OH;exact bK A
def TH(x y:Node):ax PP II:=ax.xa 74
 (λX args a=>match args with
  |[.agg cs,.agg ds]=>X.ag (OH x cs&&OH y ds&&cQ x&&cQ y) (a (.agg (di (bc x y))))
  |_=>X.fail)
 λX sem hX args a h=>by
  split at h
  ·rename_i cs ds;obtain⟨b,c⟩:=hX.ag _ _ h;simp only[ba]at b;obtain⟨⟨⟨a1,a2⟩,d⟩,a4⟩:=b;rw[JL a1,JL a2];exact⟨_,c,λ_=>rfl,λ_=>rfl,Kx d a4⟩
  ·exact zR
def OI(W)(L)(c e nd)(n)(nw)(f)(ng)(g)(a fl)(nu de)(top n0)(r I)(P J)(m H)(F K){q}(N:q=(lY (W (c_ (z r-1))) {nw:=nw,f:=f,ng:=ng,g:=g,a:=a,fl:=fl,nu:=nu,de:=de,top:=top} (c_ (z r-1)))){j}(O:j=(aq (W (c_ (z r-1))))){C}(Q:C=(M (Node.lo j 0=Node.lo j 0)&&(M (Node.lo j 1=Node.lo j 1)&&(M (Node.lo j 2=Node.lo j 2)&&(M (Node.lo j 3=Node.lo j 3)&&(M (Node.lo j 4=Node.lo j 4)&&(M (Node.lo j 5=Node.lo j 5)&&(M (Node.lo j 6=Node.lo j 6)&&(M (Node.lo j 7=Node.lo j 7)&&(M (Node.hi j 0=Node.hi j 0)&&(M (Node.hi j 1=Node.hi j 1)&&(M (Node.hi j 2=Node.hi j 2)&&(M (Node.hi j 3=Node.hi j 3)&&(M (Node.hi j 4=Node.hi j 4)&&(M (Node.hi j 5=Node.hi j 5)&&(M (Node.hi j 6=Node.hi j 6)&&(M (Node.hi j 7=Node.hi j 7)&&(M (Node.l j=Node.l j)&&(M (Node.r j=Node.r j)&&true))))))))))))))))))){u}(R:u=(fR (W (c_ (z r-1))) {nw:=nw,f:=f,ng:=ng,g:=g,a:=a,fl:=fl,nu:=nu,de:=de,top:=top} m)){D}(S:D=(sV (W (c_ (z r-1))) {nw:=nw,f:=f,ng:=ng,g:=g,a:=a,fl:=fl,nu:=nu,de:=de,top:=top} λi=>jz {k:=1,x:={t:=0,s:=0,v:=0,w:=0,o:=0,p:=0,d:=0,l:=0,h:=0,b:=0},nd:={lo:=λx=>0,hi:=λx=>0,l:=[],r:=[]}} P (1+i))){y}(T:y=(fR (W q) {nw:=nw,f:=f,ng:=ng,g:=g,a:=a,fl:=fl,nu:=nu,de:=de,top:=top} u)){E}(U:E=(px (W (c_ (z r-1))) {nw:=nw,f:=f,ng:=ng,g:=g,a:=a,fl:=fl,nu:=nu,de:=de,top:=top} m F)){G}(V:G=(lY (W q) {nw:=nw,f:=f,ng:=ng,g:=g,a:=a,fl:=fl,nu:=nu,de:=de,top:=top} q)):(kbR [TG W L,EK,TH c e,wV] 54 [.ptr 12 0 0 0,.int b_ n] (qv ⟨nw,f,ng,g,a,fl,nu,de,top⟩ n0 r (jz dj P) m F) (.agg (di nd)) (ov ⟨nw,f,ng,g,a,fl,nu,de,top⟩ n0 I J H K))=(ak (M (z r=0)) False (B (M (0<z r)) (B (M (1<=z r)&&M (z r<=z r)) (ak (M (n>1)) (B (M (0<=n)&&M (n<=1000000)) (B (g_ m m&&true&&true&&jO (W (c_ (z r-1))) {nw:=nw,f:=f,ng:=ng,g:=g,a:=a,fl:=fl,nu:=nu,de:=de,top:=top} (z (bP n.toNat)) (c_ (z r-1)) (λi=>jz {k:=1,x:={t:=0,s:=0,v:=0,w:=0,o:=0,p:=0,d:=0,l:=0,h:=0,b:=0},nd:={lo:=λx=>0,hi:=λx=>0,l:=[],r:=[]}} P (1+i)) m F) (B (M (0<=n)&&M (n<=1000000)) (B C (B (aJ b_ (n-z (bP n.toNat))) (B (g_ u u&&true&&true&&jO (W q) {nw:=nw,f:=f,ng:=ng,g:=g,a:=a,fl:=fl,nu:=nu,de:=de,top:=top} (n-z (bP n.toNat)) q D u E) (B C (B (OH c [a_ b_ (Node.lo j 0),a_ b_ (Node.lo j 1),a_ b_ (Node.lo j 2),a_ b_ (Node.lo j 3),a_ b_ (Node.lo j 4),a_ b_ (Node.lo j 5),a_ b_ (Node.lo j 6),a_ b_ (Node.lo j 7),a_ b_ (Node.hi j 0),a_ b_ (Node.hi j 1),a_ b_ (Node.hi j 2),a_ b_ (Node.hi j 3),a_ b_ (Node.hi j 4),a_ b_ (Node.hi j 5),a_ b_ (Node.hi j 6),a_ b_ (Node.hi j 7),j_ (Node.l j),j_ (Node.r j)]&&OH e [a_ b_ (Node.lo (aq (W q)) 0),a_ b_ (Node.lo (aq (W q)) 1),a_ b_ (Node.lo (aq (W q)) 2),a_ b_ (Node.lo (aq (W q)) 3),a_ b_ (Node.lo (aq (W q)) 4),a_ b_ (Node.lo (aq (W q)) 5),a_ b_ (Node.lo (aq (W q)) 6),a_ b_ (Node.lo (aq (W q)) 7),a_ b_ (Node.hi (aq (W q)) 0),a_ b_ (Node.hi (aq (W q)) 1),a_ b_ (Node.hi (aq (W q)) 2),a_ b_ (Node.hi (aq (W q)) 3),a_ b_ (Node.hi (aq (W q)) 4),a_ b_ (Node.hi (aq (W q)) 5),a_ b_ (Node.hi (aq (W q)) 6),a_ b_ (Node.hi (aq (W q)) 7),j_ (Node.l (aq (W q))),j_ (Node.r (aq (W q)))]&&cQ c&&cQ e) (bh y H (an y (px (W q) {nw:=nw,f:=f,ng:=ng,g:=g,a:=a,fl:=fl,nu:=nu,de:=de,top:=top} u E) K/\zyI n0 (bh G I (an G (sV (W q) {nw:=nw,f:=f,ng:=ng,g:=g,a:=a,fl:=fl,nu:=nu,de:=de,top:=top} D) J/\zyN nw (zyR nw f (zyN ng (zyR ng g (zyI a (zyI fl (zyB nu (zyB de (zyI top (bh y H (aS ((bc c e).lo 0) (nd.lo 0) (aS ((bc c e).lo 1) (nd.lo 1) (aS ((bc c e).lo 2) (nd.lo 2) (aS ((bc c e).lo 3) (nd.lo 3) (aS ((bc c e).lo 4) (nd.lo 4) (aS ((bc c e).lo 5) (nd.lo 5) (aS ((bc c e).lo 6) (nd.lo 6) (aS ((bc c e).lo 7) (nd.lo 7) (aS ((bc c e).hi 0) (nd.hi 0) (aS ((bc c e).hi 1) (nd.hi 1) (aS ((bc c e).hi 2) (nd.hi 2) (aS ((bc c e).hi 3) (nd.hi 3) (aS ((bc c e).hi 4) (nd.hi 4) (aS ((bc c e).hi 5) (nd.hi 5) (aS ((bc c e).hi 6) (nd.hi 6) (aS ((bc c e).hi 7) (nd.hi 7) (eX (bc c e).l nd.l (eX (bc c e).r nd.r True))))))))))))))))))))))))))))))))))))))) False)))):=by subst_vars;kernel_rfl
end
end
end Go.Sx
