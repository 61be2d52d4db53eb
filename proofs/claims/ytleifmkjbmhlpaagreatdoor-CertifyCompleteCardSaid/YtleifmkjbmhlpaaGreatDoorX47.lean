/- The proof of a statement of the seat, part 47. -/
import Derived.Test.YtleifmkjbmhlpaaGreatDoorX39
import Derived.Test.YtleifmkjbmhlpaaGreatDoorX24
import Derived.Test.YtleifmkjbmhlpaaGreatDoorX14
import Derived.Test.YtleifmkjbmhlpaaGreatDoorX46
import Derived.Test.YtleifmkjbmhlpaaGreatDoorX44
import Derived.Test.YtleifmkjbmhlpaaGreatDoorX45
import Derived.Test.YtleifmkjbmhlpaaGreatDoorX38
set_option linter.all false
set_option linter.defProp false
set_option maxRecDepth 1000000
namespace Go.Sx
open Go
open List renaming length->M,beq->k_,getD->n_,all->o_
open Int renaming ofNat->z,tdiv->d_,toNat->u_
open Decidable renaming decide->a_
open Go.IntKind renaming i64->b_
open AV renaming int->c_,str->i_,bool->j_,agg->m_,fn->q_,bx->s_,ae->v_
open Bool renaming or_eq_true->e_,true_and->f_
open Nat renaming ble->g_,le_trans->h_,beq->l_,sub_self->r_
noncomputable section
def G4{x y}(h:AW x y=true):jh x y<0/\0<jh y x:=by
 unfold AW at h;simp only[e_,ba,bl]at h;unfold jh ud XM;omega
def G5{x}(h:small x):bE x=true:=by
 obtain⟨c,d,h3,h4,e,f,g,i,j,a,b⟩:=h;unfold bE
 grind
def TW{x}(h:small x):pW x=true:=by
 obtain⟨f,g,h3,h4,i,j,a,l,m,b,c⟩:=h;have n:0<=x.d/\x.d<=30:=by
  rw[a];obtain⟨k,e⟩:∃k:Nat,x.t=(k:Int):=⟨x.t.toNat,O⟩;have:d_ x.t 10=((k/10:Nat):Int):=by rw[e];rfl
  rw[this];omega
 unfold pW lO
 grind
def wZ{F}:∀{k},(∀i,i+1<=k->AW (F i) (F (i+1))=true)->fm F k=true
 |0,_=>rfl
 |k+1,h=>by have:=(G4 (h k (dP _))).2;show(!decide (jh (F (k+1)) (F k)<0)&&fm F k)=true;rw[wZ λi hi=>h i O,nJ O];rfl
def JU(X){i}(hi:i<=40):dY (fp X i).length (bm (fp X i))=true:=by
 have b:=vD X i;have c:=wB X i;have d:=BM X i;generalize fp X i=l at*;have f:bT l.length (bm l)=true:=by
  unfold bT wq;rw[bK O,Bool.and_true,ba];refine⟨List.all_eq_true.2 λk a=>?_,wZ λj g=>yX l j d O⟩;have a:=List.mem_range.1 a;unfold tk;rw[G5 (c _ (Fh a)),f_];cases k with
  |zero=>rfl
  |succ k=>
   have:=(G4 (yX l k d a)).1
   grind
 unfold dY;rw[f,f_];cases h:l_ l.length 0 with
 |true=>rfl
 |false=>
  have:l.length≠0:=λe=>by simp_all
  rw[Bool.false_or];simp only[ba,cq];refine⟨⟨⟨il O,il O⟩,?_⟩,il O⟩;exact List.all_eq_true.2 λk a=>TW (c _ (Fh (List.mem_range.1 a)))
def rA(X)(j):(1<=cN X j 0/\cN X j 0<=8)/\(1<=cN X j 1/\cN X j 1<=4)/\(-1<=cN X j 2/\cN X j 2<=38):=by
 have a:=bF (c:=X j 0) (n:=11) O;have b:=bF (c:=X j 1) (n:=4) O;have h3:=bF (c:=X j 2) (n:=40) O;refine⟨?_,?_,?_⟩
 ·show 1<=oj (X j 0)/\oj (X j 0)<=8;unfold oj
  grind
 ·show 1<=1+aj (X j 1) 4/\1+aj (X j 1) 4<=4;omega
 ·show -1<=aj (X j 2) 40-1/\aj (X j 2) 40-1<=38;omega
def AT{l m:List Int}{i d}(h:i<l.length):(l++m).getD i d=l.getD i d:=by
 grind
def tH(p):∀(k i),i<(bL p k).length->(1<=(bL p k).getD i 0/\(bL p k).getD i 0<=(k:Int))/\(i=0∨(bL p k).getD (i-1) 0<(bL p k).getD i 0)
 |0,i,h=>by simp[bL]at h
 |k+1,i,h=>by
  have b:=tH p k;unfold bL at h⊢;split at h
  ·rename_i c;simp only[List.length_append,List.length_singleton]at h;by_cases e:i<(bL p k).length
   grind
   ·have a:i=(bL p k).length:=by omega
    have el:(bL p k++[(k:Int)+1]).getD i 0=(k:Int)+1:=by rw[a,List.getD_eq_getElem?_getD,List.getElem?_append_right (dP _),r_];rfl
    grind
  grind
def TX{k}(h:k<11):qq (zj k) (zk k)=true:=List.any_eq_true.2 ⟨k,List.mem_range.2 h,zA⟩
def TY(agg)(n)(X)(g top):fx (bU agg n X g top)=true:=by
 have f:=tH (aj g 64) 6;have hl:=uD (aj g 64) 6;have s:=bF (c:=agg) (n:=5) O;have t:=bF (c:=d_ agg 5) (n:=2) O;have i:=bF (c:=d_ agg 10) (n:=11) O;have ht:=bF (c:=top) (n:=5) O;unfold fx;simp only[ba,bl];refine⟨⟨⟨⟨⟨?_,hl⟩,?_⟩,?_⟩,?_⟩,?_⟩
 ·show min n 6<=6;omega
 ·refine List.all_eq_true.2 λj _=>?_
  have:=rA X j;show(a_ (1<=cN X j 0)&&a_ (cN X j 0<=8)&&a_ (1<=cN X j 1)&&a_ (cN X j 1<=4)&&a_ (-1<=cN X j 2)&&a_ (cN X j 2<=4398046511104))=true
  grind
 ·refine List.all_eq_true.2 λj k=>?_
  have:=f j (List.mem_range.1 k);show(a_ (1<=(bL (aj g 64) 6).getD j 0)&&a_ ((bL (aj g 64) 6).getD j 0<=6)&&(l_ j 0||a_ ((bL (aj g 64) 6).getD (j-1) 0<(bL (aj g 64) 6).getD j 0)))=true;simp_all
 ·show(a_ (0<=(bU agg n X g top).top)&&a_ ((bU agg n X g top).top<=100)&&(a_ ((bU agg n X g top).top<=0)||Nat.blt 0 (bL (aj g 64) 6).length))=true;have e:(bU agg n X g top).top=match a_ (z (bL (aj g 64) 6).length>0)with|true=>aj top 5|false=>0:=rfl
  rw[e];cases b:a_ (z (bL (aj g 64) 6).length>0)with
  |true=>
   have b:=py b;have:0<(bL (aj g 64) 6).length:=by have:((bL (aj g 64) 6).length:Int)>0:=b;omega
   simp only;rw[bK O,bK O,ph this,Bool.or_true];rfl
  |false=>rfl
 ·unfold Nz;have l:(bU agg n X g top).a=1+aj agg 5:=rfl;have m:(bU agg n X g top).fl=match a_ (1+aj agg 5>1)with|true=>7+aj (d_ agg 5) 2|false=>0:=rfl
  have o:(bU agg n X g top).nu=match a_ (1+aj agg 5=5)with|true=>zj (u_ (aj (d_ agg 10) 11))|false=>[]:=rfl
  have p:(bU agg n X g top).de=match a_ (1+aj agg 5=5)with|true=>zk (u_ (aj (d_ agg 10) 11))|false=>[]:=rfl
  rw[l,m,o,p];generalize aj agg 5=a at*;have d:(a_ (7+aj (d_ agg 5) 2=7)||a_ (7+aj (d_ agg 5) 2=8))=true:=by simp only[e_,bl];omega
  have:a=0∨a=4∨(1<=a/\a<=3):=O;rcases this with rfl|rfl|h
  ·rfl
  ·have q:a_ ((1:Int)+4>1)=true:=rfl;have r:a_ ((1:Int)+4=5)=true:=rfl;rw[q,r];simp only;rw[d,TX O];simp
  grind
def OQ(agg)(n)(X)(g top):ar 3 (bU agg n X g top).nw (av (bU agg n X g top).C)=true:=by
 refine List.all_eq_true.2 λj _=>?_
 have:=rA X j;show(aJ b_ (cN X j 0)&&(aJ b_ (cN X j 1)&&(aJ b_ (cN X j 2)&&true)))=true;rw[ai O O,ai O O,ai O O];rfl
def OR(agg)(n)(X)(g top):ar 1 (bU agg n X g top).ng (aN (bU agg n X g top).G)=true:=by
 refine List.all_eq_true.2 λj a=>?_
 have:=tH (aj g 64) 6 j (List.mem_range.1 a);show(aJ b_ ((bL (aj g 64) 6).getD j 0)&&true)=true;rw[ai O O];rfl
def TZ(agg)(n)(X)(g top):kw (bU agg n X g top).nw (bU agg n X g top).C=true:=by
 unfold kw;rw[ba];refine⟨bK (by show min n 6<=6;omega),List.all_eq_true.2 λj _=>?_⟩;have:=rA X j;show(a_ (1<=cN X j 0)&&a_ (cN X j 0<=8)&&a_ (1<=cN X j 1)&&a_ (cN X j 1<=4))=true
 grind
section
open Small
open Classical in
def Ly{c d e a:aae}(f:c=Hs.get 0)(g:d=Hs.get 1)(h3:e=Hs.get 3)(b:a=Hs.get 13):Jj c d e a=true:=by
 unfold Jj;exact bK ⟨f,g,h3,b⟩
end
section
def Lz(q:Query):ax PP II:=ax.I8 26
 (λX args b=>match args with
  |[.agg cs,.ae k 10 f]=>X.ag (sE q cs&&dl q&&du k f&&bT k (bS f)) (b (Ww q k (bS f)))
  |[.agg cs,.aD]=>X.ag (sE q cs&&dl q) (b (Ww q 0 (bm [])))
  |_=>X.fail)
 λX sem hX args b h=>by
  split at h
  ·obtain⟨a,c⟩:=hX.ag _ _ h;simp only[ba]at a;obtain⟨⟨⟨a1,a2⟩,d⟩,a4⟩:=a;obtain⟨l1,l2⟩:=ot a1;refine⟨_,c,λ_=>rfl,λσ=>?_,af.iM (Ls a2 a4) l1 (jK d)⟩;show [s_ σ (.agg _),_]=_;rw[l2];rfl
  ·obtain⟨a,c⟩:=hX.ag _ _ h;simp only[ba]at a;obtain⟨a1,a2⟩:=a;obtain⟨l1,l2⟩:=ot a1;refine⟨_,c,λ_=>rfl,λσ=>?_,af.iM (Ls (k:=0) (F:=bm []) a2 A) l1 A⟩;show [s_ σ (.agg _),_]=_;rw[l2];rfl
  ·exact zR
def Xh(q:Query):ax PP II:=ax.pure 32
 (λX args b=>match args with
  |[.agg cs]=>X.ag (sE q cs&&dl q) (b (.bool true))
  |_=>X.fail)
 λX sem hX args b h=>by
  split at h
  ·obtain⟨a,c⟩:=hX.ag _ _ h;simp only[ba]at a;obtain⟨l1,l2⟩:=ot a.1;obtain⟨r1,d,e⟩:=iQ a.2;refine⟨_,c,λ_=>rfl,λσ=>?_,(Sl (q:=q) r1 d e).cS ⟨l1,trivial⟩⟩;show [s_ σ (.agg _)]=_;rw[l2]
  ·exact zR
def LA(q:Query):ax PP II:=ax.xa 12
 (λX args a=>match args with
  |[.ae n 10 f,.agg cs]=>X.ag (sE q cs&&dl q&&kw q.nw q.C&&du n f&&dY n (bS f)) (a (.bM [pp n (mb n (bS f) q.nw q.C),.int b_ 0]))
  |_=>X.fail)
 λX sem hX args a h=>by
  split at h
  ·obtain⟨b,c⟩:=hX.ag _ _ h;simp only[ba]at b;obtain⟨⟨⟨⟨a1,a2⟩,d⟩,a4⟩,e⟩:=b;obtain⟨l1,l2⟩:=ot a1;obtain⟨r1,g,i⟩:=iQ a2;refine⟨_,c,λ_=>rfl,λσ=>?_,(S9 (q:=q) e r1 g i d).cS ⟨jK a4,l1,trivial⟩⟩;show [_,s_ σ (.agg _)]=_;rw[l2];rfl
  ·exact zR
def Xi(x:Node):ax PP II:=ax.xa 42
 (λX args b=>match args with
  |[.agg cs]=>X.ag (OH x cs&&cQ x) (b (.str (mW x)))
  |_=>X.fail)
 λX sem hX args b h=>by
  split at h
  ·obtain⟨a,c⟩:=hX.ag _ _ h;simp only[ba]at a;rw[JL a.1];exact⟨_,c,λ_=>rfl,λ_=>rfl,Fb a.2⟩
  ·exact zR
open Classical in
def ql(g m:Nat)(r:Nat->List AV)(a:Nat)(b:Nat->List AV):Bool:=a_ (m=a/\r=b/\Ah g m r=true/\m<=1000000/\g<=1000000)
open Classical in
def OS{g m:Nat}{r:Nat->List AV}{a:Nat}{b:Nat->List AV}(h:ql g m r a b=true):m=a/\r=b/\Ah g m r=true/\m<=1000000/\g<=1000000:=by
 unfold ql at h;exact py h
def T0(g:Nat):ax PP II:=ax.pure 25
 (λX args a=>match args with
  |[.ae m 9 r,.ae b 9 c]=>X.ag (ql g m r b c) (a (.bool true))
  |_=>X.fail)
 λX sem hX args a h=>by
  split at h
  ·rename_i m r b c;obtain⟨e,f⟩:=hX.ag _ _ h;obtain⟨rfl,rfl,d,a4,i⟩:=OS e;exact⟨_,f,λ_=>rfl,λ_=>rfl,af.iM (V2 (K:=Y7 r) (S:=Ji r) a4 i) (Ai d) (Ai d)⟩
  ·exact zR
def LB(n)(X)(m)(C)(agg g top)(q)(T)(hT)(nd)(Q:AV->Prop){c}(a7:c=(fp (aF (eK X)) (min n 40))){k}(bd:k=[v_ (Query.nw (bU agg m (aF (av C)) g top)) 3 (av (Query.C (bU agg m (aF (av C)) g top))),v_ (Query.ng (bU agg m (aF (av C)) g top)) 1 (aN (Query.G (bU agg m (aF (av C)) g top))),c_ b_ (Query.a (bU agg m (aF (av C)) g top)),c_ b_ (Query.fl (bU agg m (aF (av C)) g top)),i_ (Query.nu (bU agg m (aF (av C)) g top)),i_ (Query.de (bU agg m (aF (av C)) g top)),c_ b_ (Query.top (bU agg m (aF (av C)) g top))]){e}(bq:e=(bS λi=>aB (bm c i))){u}(bs:u=(M (mb (M c) e q.nw q.C))){S}(b0:S=(GS q {nw:=Query.nw (bU agg m (aF (av C)) g top),f:=av (Query.C (bU agg m (aF (av C)) g top)),ng:=Query.ng (bU agg m (aF (av C)) g top),g:=aN (Query.G (bU agg m (aF (av C)) g top)),a:=Query.a (bU agg m (aF (av C)) g top),fl:=Query.fl (bU agg m (aF (av C)) g top),nu:=Query.nu (bU agg m (aF (av C)) g top),de:=Query.de (bU agg m (aF (av C)) g top),top:=Query.top (bU agg m (aF (av C)) g top)}&&jO T (mA q) (z (M c)) u (gV 0 (λx=>[]) (mb (M c) e q.nw q.C)) 0 λx=>[])){P}(b1:P=((o_ (List.range.loop (fR T (mA q) 0) []) λi=>bj.free (px T (mA q) 0 (λx=>[]) i))&&a_ (fR T (mA q) 0<=fR T (mA q) 0))){y}(b2:y=(a_ (Prod.fst (nh (M c) e)=Prod.fst (nh (M c) e)))){j}(b3:j=(px T (mA q) 0 λx=>[])){R}(b4:R=(a_ (Prod.snd (nh (M c) e)=0))){D}(U:D=(Prod.fst (nh (M c) e))){E}(V:E=(bT 0 λx=>{t:=0,s:=0,v:=0,w:=0,o:=0,p:=0,d:=0,l:=0,h:=0,b:=0})){F}(W:F=(Q (j_ (a_ (z (M c)=z (M c)))))){I}(Y:I=(a_ (fR T (mA q) 0<=1000000)&&du (fR T (mA q) 0) j)){J}(Z:J=(lO (z (M c))&&g_ (M (mW nd)) 1000)){K}(aa:K=(br q.ng (Bi q (M c) e) (Bj q (M c) e))){L}(ad:L=(k_ (oO (z (M c)) (mW nd)) D)){N}(ap:N=(k_ (oO (z (M c)) []) D)){O}(a6:O=(ak R (Q (j_ false)) (Q (j_ false)))):(ka [Xb,KR,KV,DC,LA q,Lz q,Xh q,Vs [TK q T hT,Xi nd,wV,uB,nR,Lz q],T0 q.ng] (mO PP II []) 1000 7 [.ae n 4 (eK X),.agg [.int b_ agg,.ae m 3 (av C),.int b_ g,.int b_ top]] Hl (λa H=>B (g_ 14 H.n) (Q a)) (λ_ _=>False))=(B (Jj (aae.cells [v_ 5 2 aC] Access.ro) (aae.cells [i_ [48],i_ [49]] Access.ro) (aae.cells [AV.map (some 13)] Access.ro) (aae.map [(AV.any,AV.any),(c_ b_ 1,m_ [q_ 317 [] []]),(c_ b_ 2,m_ [q_ 319 [] []]),(c_ b_ 3,m_ [q_ 321 [] []]),(c_ b_ 4,m_ [q_ 323 [] []]),(c_ b_ 5,m_ [q_ 324 [] []])])) (B (ar 4 n (eK X)) (B (ar 3 m (av C)&&aJ b_ agg&&aJ b_ g&&aJ b_ top) (B (du (M c) λi=>aB (bm c i)) (B (vL (M c) e) (B ((sE q k&&dl q&&kw q.nw q.C&&du (M c) λi=>aB (bm c i))&&dY (M c) e) (B ((sE q k&&dl q&&du (M c) λi=>aB (bm c i))&&bT (M c) e) (B (sE q k&&dl q) (ak (a_ (z (M c)<0)) O (ak (a_ (z (M c)>400)) O (ak (a_ (z (M c)>0)) (B S (B S (B (OH nd [c_ b_ ((aq T).lo 0),c_ b_ ((aq T).lo 1),c_ b_ ((aq T).lo 2),c_ b_ ((aq T).lo 3),c_ b_ ((aq T).lo 4),c_ b_ ((aq T).lo 5),c_ b_ ((aq T).lo 6),c_ b_ ((aq T).lo 7),c_ b_ ((aq T).hi 0),c_ b_ ((aq T).hi 1),c_ b_ ((aq T).hi 2),c_ b_ ((aq T).hi 3),c_ b_ ((aq T).hi 4),c_ b_ ((aq T).hi 5),c_ b_ ((aq T).hi 6),c_ b_ ((aq T).hi 7),i_ (aq T).l,i_ (aq T).r]&&cQ nd) (ak (a_ (z (lY T (mA q) u)=0)) (B P (B I (ak (bT (fR T (mA q) 0) (bS j)) (B J (B y (B L (ak (a_ (z (lY T (mA q) u)=0)) (B P (B I (ak (bT (fR T (mA q) 0) (bS j)) (B J (B y (B L (B P (B (sE q k&&dl q&&du (fR T (mA q) 0) j&&bT (fR T (mA q) 0) (bS j)) (ak R (B (ql q.ng (v7 q (fR T (mA q) 0) (bS j)) (br q.ng (Bi q (fR T (mA q) 0) (bS j)) (Bj q (fR T (mA q) 0) (bS j))) (v7 q (M c) e) K) F) (Q (j_ false)))))))) False))) False)))) False))) False)))) (ak (a_ (z u=0)) (ak E (B (lO (z (M c))&&true) (B y (B N (ak (a_ (z u=0)) (ak E (B (lO (z (M c))&&true) (B y (B N (B (sE q k&&dl q) (ak R (B (ql q.ng (v7 q 0 (bm [])) (br q.ng (Bi q 0 (bm [])) (Bj q 0 (bm []))) (v7 q (M c) e) K) F) (Q (j_ false))))))) False) False)))) False) False)))))))))))):=by subst_vars;kernel_rfl
end
section
open Small
def LC(q)(n)(F):v7 q n F<=n:=by
 have h:=(ru q F n).len;unfold v7 xf;split
 ·exact h
 ·exact h_ (qa _ _) h
open Classical in
def CD{g m a:Nat}{r b:Nat->List AV}(c:m=a)(d:r=b)(h3:Ah g m r=true)(h4:m<=1000000)(e:g<=1000000):ql g m r a b=true:=by
 unfold ql;exact bK ⟨c,d,h3,h4,e⟩
def aaR(q:Query):fV q.nw (aF (av q.C))=fV q.nw q.C:=funext λ_=>rfl
def JV(m)(l):(o_ (List.range.loop m []) λi=>bj.free (aB (bm l i)))=true:=List.all_eq_true.2 λ_ _=>rfl
def T1{l:List ao}{q:Query}(s:dY l.length (bm l)=true)(t:dl q=true)(Q:kw q.nw q.C=true)(n:Nat)(X:Nat->Nat->Int)(m:Nat)(C:Nat->Nat->Int)(agg g top:Int)(hX:ar 4 n (eK X)=true)(hC:ar 3 m (av C)=true)(ha:aJ b_ agg=true)(hg:aJ b_ g=true)(ht:aJ b_ top=true)
  (hl:fp (aF (eK X)) (min n 40)=l) (R:bU agg m (aF (av C)) g top=q):∃(T:Tree)(hT:Reads T)(nd:Node),ka [Xb,KR,KV,DC,LA q,Lz q,Xh q,Vs [TK q T hT,Xi nd,wV,uB,nR,Lz q],T0 q.ng] (mO PP II []) 1000 7 [.ae n 4 (eK X),.agg [.int b_ agg,.ae m 3 (av C),.int b_ g,.int b_ top]] Hl (λa H=>B (g_ 14 H.n) (a= .bool true)) (λ_ _=>False):=by
 obtain⟨r1,r2,u⟩:=iQ t;have k:=s;unfold dY at k;simp only[ba,e_]at k;obtain⟨c,p⟩:=k;have S:=nD c;have E:=pq q;have d:=dm l.length (bm l);have F:(bS λi=>aB (bm l i))=bm l:=rfl;have v:q.ng<=1000000:=by unfold fx at u;simp only[ba,bl]at u;omega
 have w:vL l.length (bm l)=true:=by
  unfold vL;rcases p with h|h
  ·rw[h];rfl
  ·grind
 have U:(sE q [.ae q.nw 3 (av q.C),.ae q.ng 1 (aN q.G),.int b_ q.a,.int b_ q.fl,.str q.nu,.str q.de,.int b_ q.top]&&dl q&&kw q.nw q.C&&du l.length (λi=>aB (bm l i))&&dY l.length (bS λi=>aB (bm l i)))=true:=by rw[F,E,t,Q,d,s];rfl
 have V:(sE q [.ae q.nw 3 (av q.C),.ae q.ng 1 (aN q.G),.int b_ q.a,.int b_ q.fl,.str q.nu,.str q.de,.int b_ q.top]&&dl q&&du l.length (λi=>aB (bm l i))&&bT l.length (bS λi=>aB (bm l i)))=true:=by rw[F,E,t,d,c];rfl
 have K:(sE q [.ae q.nw 3 (av q.C),.ae q.ng 1 (aN q.G),.int b_ q.a,.int b_ q.fl,.str q.nu,.str q.de,.int b_ q.top]&&dl q)=true:=by rw[E,t];rfl
 have x:lO (z l.length)=true:=by unfold lO;simp only[ba,bl];have:z l.length=(l.length:Int):=rfl;omega
 have en:z l.length=(l.length:Int):=rfl;by_cases hz:l.length=0
 ·have e:l=[]:=by grind
  subst e;have b:GR (.leaf dp):=by show bE dp=true;rfl
  refine⟨.leaf dp,sw _ b,aO dp,?_⟩;rw[LB _ _ _ _ _ _ _ _ _ _ _ _ A A A A A A A A A A A A A A A A A A,hl,R];refine ZE _ _ (Ly A A A A) (ZE _ _ hX (ZE _ _ Y (ZE _ _ d (ZE _ _ w (ZE _ _ U (ZE _ _ V (ZE _ _ K ?_)))))));refine aaA O λ_=>aaA O λ_=>aaA O λ_=>?_
  have I:k_ (oO (z ([]:List ao).length) []) (nh ([]:List ao).length (bS λi=>aB (bm [] i))).1=true:=by have:(nh ([]:List ao).length (bS λi=>aB (bm [] i))).1=oO 0 []:=rfl;rw[this];exact beq_self_eq_true (α:=List UInt8) _
  have r:ql q.ng (v7 q 0 (bm [])) (br q.ng (Bi q 0 (bm [])) (Bj q 0 (bm []))) (v7 q ([]:List ao).length (bS λi=>aB (bm [] i))) (br q.ng (Bi q ([]:List ao).length (bS λi=>aB (bm [] i))) (Bj q ([]:List ao).length (bS λi=>aB (bm [] i))))=true :=CD A A (vP _ _ _ _) (h_ (LC _ _ _) O) v
  have y:(lO (z ([]:List ao).length)&&true)=true:=by rw[x];rfl
  refine aaA (λ_=>?_) λh=>absurd A h
  refine aaz (λ_=>?_) λh=>by cases zI
  refine ZE _ _ y (ZE _ _ (bK A) (ZE _ _ I ?_));refine aaA (λ_=>?_) λh=>absurd A h
  refine aaz (λ_=>?_) (by simp_all);refine ZE _ _ y (ZE _ _ (bK A) (ZE _ _ I (ZE _ _ K ?_)));refine aaA (λ_=>?_) λh=>absurd A h
  refine ZE _ _ r ?_;rfl
 ·have p:=(by simp_all:(cq 20 l.length=true/\gx l.length (bm l)=true)/\g_ l.length 400000=true);obtain⟨⟨g1,g2⟩,_⟩:=p;obtain⟨b,sz⟩:=OJ 20 l.length (bm l) g1 O (nC c) g2;refine⟨bp 20 l.length (bm l),sw _ b,aq (bp 20 l.length (bm l)),?_⟩;rw[LB _ _ _ _ _ _ _ _ _ _ _ _ A A A A A A A A A A A A A A A A A A,hl,R];have J:l_ l.length 0=false:=by
   cases J:l_ l.length 0 with
   |false=>rfl
   |true=>simp_all
  have L:ops (bp 20 l.length (bm l)) (mA q)=iA q l.length (bm l):=by unfold iA;rw[J];rfl
  obtain⟨o1,o2,o3⟩:=Cy u s;have N:=Ef u s;obtain⟨w1,w2,w3⟩:=TQ u s;have em:fR (bp 20 l.length (bm l)) (mA q) 0=(iA q l.length (bm l)).length:=by show 0+(ops _ (mA q)).length=_;rw[L,Nat.zero_add]
  have ef:px (bp 20 l.length (bm l)) (mA q) 0 (λ_=>[])=λi=>aB (bm (iA q l.length (bm l)) i):=by show ow 0 _ (ops _ (mA q))=_;rw[L];rfl
  have eP:mb l.length (bS λi=>aB (bm l i)) q.nw q.C=mo (bp 20 l.length (bm l)) (mA q):=by rw[F];unfold mb;rw[J];show aR (fV q.nw q.C) _=aR (fV q.nw (aF (av q.C))) _;rw[aaR]
  have er:lY (bp 20 l.length (bm l)) (mA q) (mo (bp 20 l.length (bm l)) (mA q)).length=0:=r_ _;have I:nh l.length (bS λi=>aB (bm l i))=(oO (z l.length) (mW (aq (bp 20 l.length (bm l)))),0):=by rw[F];unfold nh;rw[c,J];rfl
  have D:(mo (bp 20 l.length (bm l)) (mA q)).length<=1000000:=by have:=qd (fV q.nw (aF (av q.C))) (bp 20 l.length (bm l));have hl:=(zp 20 l.length (bm l) 20 g1 O).1;show(aR (fV q.nw (aF (av q.C))) (bp 20 l.length (bm l))).length<=_;omega
  have W:(GS q {nw:=q.nw,f:=av q.C,ng:=q.ng,g:=aN q.G,a:=q.a,fl:=q.fl,nu:=q.nu,de:=q.de,top:=q.top}&&jO (bp 20 l.length (bm l)) (mA q) (z l.length) (mo (bp 20 l.length (bm l)) (mA q)).length (gV 0 (λ_=>[]) (mo (bp 20 l.length (bm l)) (mA q))) 0 λ_=>[])=true:=by
   rw[show GS q {nw:=q.nw,f:=av q.C,ng:=q.ng,g:=aN q.G,a:=q.a,fl:=q.fl,nu:=q.nu,de:=q.de,top:=q.top}=true from OK q,f_];refine vZ ⟨by rw[sz];rfl,?_,λj _=>rfl,dP _,D,?_,ib my,my⟩
   ·show(ar 3 q.nw (av q.C)&&ar 1 q.ng (aN q.G)&&kw q.nw (aF (av q.C)))=true;rw[r1,r2];exact Q
   ·rw[L];omega
  have pb:(OH (aq (bp 20 l.length (bm l))) (di (aq (bp 20 l.length (bm l))))&&cQ (aq (bp 20 l.length (bm l))))=true:=by rw[AP,r8 _ _ _ g1 g2];rfl
  rw[eP,em,ef,er,I];have fo:(bS λi=>aB (bm (iA q l.length (bm l)) i))=bm (iA q l.length (bm l)):=rfl;rw[fo,w1,w2,w3];generalize iA q l.length (bm l)=o at*;have P:((o_ (List.range.loop o.length []) λi=>bj.free (aB (bm o i)))&&a_ (o.length<=o.length))=true:=by rw[JV,bK (dP _)];rfl
  have Z:(a_ (o.length<=1000000)&&du o.length λi=>aB (bm o i))=true:=by rw[dm,bK O];rfl
  have pg:(lO (z l.length)&&g_ (mW (aq (bp 20 l.length (bm l)))).length 1000)=true:=by rw[x,yV];rfl
  have pi:k_ (oO (z l.length) (mW (aq (bp 20 l.length (bm l))))) (oO (z l.length) (mW (aq (bp 20 l.length (bm l)))))=true:=beq_self_eq_true (α:=List UInt8) _;have pj:(sE q [.ae q.nw 3 (av q.C),.ae q.ng 1 (aN q.G),.int b_ q.a,.int b_ q.fl,.str q.nu,.str q.de,.int b_ q.top]&&dl q&&du o.length (λi=>aB (bm o i))&&bT o.length (bm o))=true:=by rw[E,t,dm,N];rfl
  have r:ql q.ng (v7 q l.length (bm l)) (br q.ng (Bi q l.length (bm l)) (Bj q l.length (bm l))) (v7 q l.length (bm l)) (br q.ng (Bi q l.length (bm l)) (Bj q l.length (bm l)))=true :=CD A A (vP _ _ _ _) (h_ (LC _ _ _) O) v
  refine ZE _ _ (Ly A A A A) (ZE _ _ hX (ZE _ _ Y (ZE _ _ d (ZE _ _ w (ZE _ _ U (ZE _ _ V (ZE _ _ K ?_)))))));refine aaA O λ_=>aaA O λ_=>aaA (λ_=>?_) O
  refine ZE _ _ W (ZE _ _ W (ZE _ _ pb ?_));refine aaA (λ_=>?_) λh=>absurd A h
  refine ZE _ _ P (ZE _ _ Z (aaz (λ_=>?_) (by simp_all)));refine ZE _ _ pg (ZE _ _ (bK A) (ZE _ _ pi ?_));refine aaA (λ_=>?_) λh=>absurd A h
  refine ZE _ _ P (ZE _ _ Z (aaz (λ_=>?_) (by simp_all)));refine ZE _ _ pg (ZE _ _ (bK A) (ZE _ _ pi (ZE _ _ P (ZE _ _ pj ?_))));refine aaA (λ_=>?_) λh=>absurd A h
  refine ZE _ _ r ?_;simp
def WJ{n X m C agg g top}(hX:ar 4 n (eK X)=true)(c:ar 3 m (av C)=true)(ha:aJ b_ agg=true)(d:aJ b_ g=true)(ht:aJ b_ top=true):
  af PP II 7 [.ae n 4 (eK X),.agg [.int b_ agg,.ae m 3 (av C),.int b_ g,.int b_ top]] Hl (.ret (.bool true) (AH.blank 14)):=by
 obtain⟨T,j,nd,h⟩:=T1 (JU (aF (eK X)) (i:=min n 40) O) (by unfold dl;rw[OQ,OR,TY];rfl) (TZ agg m (aF (av C)) g top) n X m C agg g top hX c ha d ht A A;obtain⟨o,b,e⟩:=iJ fU _ (aX PP II []) 1000 7 _ Hl _ _ h;cases o with
 |ret a H1=>obtain⟨f,k1⟩:=aaZ b;have k1:a= .bool true:=k1;subst k1;exact e.le (mM.of [] (ie.of A A A A f (fI.2 λl _=>trivial)) A)
 |rL a H1=>exact b.elim
end
section
open Go.Deep Go.Proofs Go.ChangeShapes Go.WideShapes
open Go.Proofs.YtleifmkjbmhlpaaGreatDoor (Rows.certifySmallRow)
def aaS(n)(X)(h:∀j,j<n->∀k,k<4->aJ b_ (X j k)=true):ar 4 n (eK X)=true:=by
 refine List.all_eq_true.2 λj a=>?_
 have a:=List.mem_range.1 a;show(aJ b_ (X j 0)&&(aJ b_ (X j 1)&&(aJ b_ (X j 2)&&(aJ b_ (X j 3)&&true))))=true
 grind
def aaT(n)(X)(h:∀j,j<n->∀k,k<3->aJ b_ (X j k)=true):ar 3 n (av X)=true:=by
 refine List.all_eq_true.2 λj a=>?_
 have a:=List.mem_range.1 a;show(aJ b_ (X j 0)&&(aJ b_ (X j 1)&&(aJ b_ (X j 2)&&true)))=true
 grind
def Zp{W b ρ H w}(h:Rel (G3 W b) ρ H w):mq W w:=⟨h.os,h.output,λi hi=>(h.gY i (.inl hi)).2⟩
end
section
open Go.Deep Go.Proofs Go.ChangeShapes Go.WideShapes
open Go.Proofs.YtleifmkjbmhlpaaGreatDoor (Rows.certifyCompleteRow Rows.certifySmallRow)
def aaU:Rows.certifyCompleteRow.laid=Rows.certifySmallRow.laid:=rfl
def aaV:(II.body 7).isSome=true:=U
def OT{H:Type}{enc:TypeId×Value->H}{W:World}{q:Nat}{args:Array Value}{ds:List (DataW H)}{ps:List MemPlace}{sp:Nat->Bool}
  (c:∀(j:Nat) t v,Tryz.f7.params[j]? =Option.some t->args[j]? =Option.some v->Value.okWide Tryz.prog W .any q t v)
  (hA:DataW.TrodAll enc Tryz.prog W 0 sp true Tryz.f7.params.toList args.toList ds ps) (o:laidMetH Tryz.prog Rows.certifyCompleteRow.laid W):
  Calls Tryz.prog 7 args W λe S=>e= .returned (.bool true)/\mq W S:=by
 rw[Tryz.params7]at hA c;rw[aaU]at o;obtain⟨v0,v1,d0,d1,p0,p1,rfl,_,_,u,w⟩:=trodAll_two hA;obtain⟨b,aa,ad,ms,x,a1,a2,a3⟩:=OO o;have d:=G2 W b;have hr:=Zo (Zn (TU d o) (OP o) (JS o) Y) (TV o);have f:Tryz.prog.cellsOf 3=1:=c1.1;have y:Tryz.prog.cellsOf 81=4:=c2.2.2.2.1;have D:Tryz.prog.cellsOf 72=3:=c2.2.2.2.2.1;have E:Tryz.prog.cellsOf 23=1:=c2.2.2.2.2.2.2;obtain⟨sa,sl,sc,rfl⟩:=okWide_slice Tryz.underlying22 (c 0 22 v0 rfl rfl);obtain⟨F,u⟩:=u;obtain⟨n,X,G,hX⟩:=CA d Tryz.underlying22 Tryz.underlying81 Tryz.underlying3 f y O u;obtain⟨cs,rfl,I⟩:=okWide_struct Tryz.underlying25 (c 1 25 v1 rfl rfl);obtain⟨J,w⟩:=w;obtain⟨xs,s,_,_,_,K,a⟩:=DataW.trod_struct Tryz.underlying25 w;have hl:cs.toList.length=4:=by rw[Array.length_toList,I];exact c2.2.2.2.2.2.1
 match r:cs.toList,hl,xs,K,a with
 |[g,p,h,i],_,[x0,x1,x2,x3],_,a=>
  have T:(Value.agg cs).cells.toList=[g,p,h,i]:=r;have U:DataW.trod enc Tryz.prog W 0 sp true s 3 (([g,p,h,i].drop 0).take (Tryz.prog.cellsOf 3))=Option.some x0:=a 0 _ A;have g1:DataW.trod enc Tryz.prog W 0 sp true s 23 (([g,p,h,i].drop 1).take (Tryz.prog.cellsOf 23))=Option.some x1:=a 1 _ A;have g2:DataW.trod enc Tryz.prog W 0 sp true s 3 (([g,p,h,i].drop 2).take (Tryz.prog.cellsOf 3))=Option.some x2:=a 2 _ A;have g3:DataW.trod enc Tryz.prog W 0 sp true s 3 (([g,p,h,i].drop 3).take (Tryz.prog.cellsOf 3))=Option.some x3:=a 3 _ A;rw[f]at U g2 g3;rw[E]at g1;obtain⟨L,V,_,w0⟩:=DataW.trod_int Tryz.underlying3 U;obtain⟨z2,Z,_,w2⟩:=DataW.trod_int Tryz.underlying3 g2;obtain⟨N,e3,_,w3⟩:=DataW.trod_int Tryz.underlying3 g3;have q0:g= .int b_ L:=by have:=congrArg (λl=>n_ l 0 g) V;exact this
  have q2:h= .int b_ z2:=by have:=congrArg (λl=>n_ l 0 h) Z;exact this
  have q3:i= .int b_ N:=by have:=congrArg (λl=>n_ l 0 i) e3;exact this
  obtain⟨m,C,P,hC⟩:=CA d Tryz.underlying23 Tryz.underlying72 Tryz.underlying3 f D O g1;clear V Z e3;subst q0 q2 q3;have Q:cs=[.int b_ L,p,.int b_ z2,.int b_ N].toArray:=by apply Array.ext';exact r
  have hv:aV (qw W b) [.ae n 4 (eK X),.agg [.int b_ L,.ae m 3 (av C),.int b_ z2,.int b_ N]] [.slice sa sl sc,.agg cs]:=by refine aV.aM.2 ⟨G,aV.aM.2 ⟨?_,rfl⟩⟩;simp only[VR];exact⟨_,by rw[Q],aV.aM.2 ⟨zB,aV.aM.2 ⟨P,aV.aM.2 ⟨zB,aV.aM.2 ⟨zB,rfl⟩⟩⟩⟩⟩
  rcases WJ (aaS n X hX) (aaT m C hC) (Eg w0) (Eg w2) (Eg w3) (G3 W b) (qw W b) W _ rfl hv hr with⟨_,k⟩|⟨v,w',k,_⟩
  ·refine k.mono λe S R=>?_
   cases e with
   |returned v=>obtain⟨ρ',_,k1,k2⟩:=R;simp only[VR]at k2;exact⟨by rw[k2],Zp k1⟩
   |panicked ch=>exact R.elim
   |outgrown=>exact R.elim
  simp_all
end
end
end Go.Sx
