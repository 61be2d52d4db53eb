/- Lemmas, part 23. -/
import Derived.Test.YtoijalagmmgkbaaGreatDoorX22
import Derived.Shelf.GgSortFunc.Insertion
set_option linter.all false
set_option linter.defProp false
set_option maxRecDepth 1000000
namespace Go.Sx
open Go
open Int renaming ofNat->M,toNat->c_
open Go.IntKind renaming i64->z
open Decidable renaming decide->a_
open List renaming range->b_,getElem?_append_left->e_,range_succ->g_,getElem?_toArray->i_
open AH renaming blank->d_
open Go.Value renaming int->f_
open Tr renaming ofList->h_
open Nat renaming gcd->j_,ble->m_,blt_eq->o_,blt->p_
open AV renaming int->k_,str->l_,bool->n_
noncomputable section
def Mj(n d)(Q):(kp [YF] [] 73 [.int z n,.int z d] Q)=(aa (a_ ((0:Int)<=n)&&a_ (n<(9223372036854775808:Int))&&a_ ((0:Int)<d)&&a_ (d<(9223372036854775808:Int))) (Q (AV.agg [l_ (bu (n.toNat/j_ n.toNat d.toNat)),l_ (bu (d.toNat/j_ n.toNat d.toNat))]))):=U
def Mk{n d:Nat}(hn:n<9223372036854775808)(b:d<9223372036854775808)(c:0<d):af PP II 73 [.int z n,.int z d] HP (.ret (kA n d) HP):=by
 refine kz (T:=[]) ((Mj n d _).mpr ?_)
 have e1:c_ (n:Int)=n:=rfl
 have a:c_ (d:Int)=d:=rfl
 rw[e1,a]
 refine Ze ?_ ?_
 grind
 ·exactλ_=>⟨rfl,rfl,trivial⟩
def Ml:aC PP II:=aC.l8 73
 (λX args a=>match args with
  |[.int z n,.int z d]=>X.bq (a_ (0<=n)&&aN z n&&a_ (0<d)&&aN z d) (a (kA n.toNat d.toNat))
  |_=>X.fail)
 λX sem hX args a h=>by
  split at h
  ·rename_i n d
   obtain⟨b,c⟩:=hX.bq _ _ h
   simp only[bf,bn,nK]at b
   refine⟨_,c,λ_=>rfl,λ_=>rfl,?_⟩
   have:=Mk (n:=n.toNat) (d:=d.toNat) O O O
   grind
  ·exact zR
def IQ(k:Nat)(W C:Nat->Int)(i:Nat):St:={t:=h_ [(3,.int z (C i)),(6,.ab k 1 (ae W)),(7,.int z (M k)),(8,.int z (M i))],nt:=17,H:=d_ 12,df:=[]}
def IR(v:Int):GE:=.one (.x 0 {t:=h_ [(3,.int z v)],nt:=17,H:=d_ 12,df:=[]})
def IS(k)(W C)(i)(Q):(kr [] [] 338 3001 12 (IQ k W C) (λ_=>IR (C k)) (λi=>i+1) Q i)=(ah (a_ (M i<M k)) (aa (a_ (0<=M i)&&a_ (M i<M k)) (aa (aN z (C i+W (c_ (M i)))) (aa (aN z (M i+1)) (zyI (M k) (aH (C i+W (c_ (M i))) (C (i+1)) (aH (M i+1) (M (i+1)) (zyN k (zyR k (ae W) Q)))))))) (aH (C i) (C k) True)):=U
def Qc(k)(W C)(Q):(kb [] [(3001,12,IQ k W C 0,IR (C k))] 338 [.ab k 1 (ae W)] Q)=(eu PP II false (aD II (338:Nat) (3001:Nat)) (12:Nat) (IQ k W C (0:Nat)) (IR (C k))/\zyI (M k) (aH (0:Int) (C (0:Nat)) (zyN k (zyR k (ae W) (Q (k_ z (C k))))))):=U
def Mm(n)(Q):(kp [Ml] [] 336 [.int z n] Q)=(aa (a_ ((0:Int)<=n)&&aN z n&&true&&aN z (1:Int)) (Q (AV.agg [l_ (bu (n.toNat/j_ n.toNat (1:Nat))),l_ (bu ((1:Nat)/j_ n.toNat (1:Nat)))]))):=U
def du(W:Nat->Int):Nat->Int
 |0=>0
 |i+1=>du W i+W i
def LH(k:Nat)(f:Nat->List AV):Bool:=bA k f&&m_ k 1000000000000&&(b_ (k+1)).all λi=>aN z (du (aM f) i)
def IT{k W}(d:k<=1000000000000)(b:∀i,i<=k->aN z (du W i)=true):eu PP II false (aD II 338 3001) 12 (IQ k W (du W) 0) (IR (du W k)):=
 eu.of (ι:=Nat) Hs [] (bm PP II []) 1000 12 (λi=>i<=k) (IQ k W (du W)) (λ_=>IR (du W k)) (λi=>k-i) (λi=>i+1) 0 A (Nat.zero_le _) λi hi=>by
  have c:an k (ae W) (ae W):=Zj λ_ _=>zM _ _ _
  refine(IS k W _ i _).mpr (Zh (λh=>?_) λh=>?_)
  ·have a:i<k:=by simp only[bn]at h;exact Int.ofNat_lt.1 h
   refine Ze zI (Ze (b (i+1) a) (Ze (aq Y Y) ?_))
   exact Zf A (Zf A (Zf A (YG A Y)))
  ·have a:i=k:=by
    simp only[iK]at h
    have :¬ i<k:=ZD
    omega
   subst a
   exact Zf A trivial
def Qd{k W}(a:k<=1000000000000)(b:∀i,i<=k->aN z (du W i)=true):af PP II 338 [.ab k 1 (ae W)] (d_ 12) (.ret (.int z (du W k)) (d_ 12)):=
 bY (T:=[(3001,12,IQ k W (du W) 0,IR (du W k))]) (λ_=>⟨rfl,rfl⟩) ((Qc k W _ _).mpr ⟨IT a b,Zf A (Zf A (YG A ⟨Zj λ_ _=>zM _ _ _,rfl⟩))⟩)
def mQ{k f}(h:LH k f=true):bA k f=true/\k<=1000000000000/\∀i,i<=k->aN z (du (aM f) i)=true:=by
 unfold LH at h
 simp only[bf]at h
 exact⟨h.1.1,ZD,λi hi=>Y⟩
def SI:aC PP II:=aC.pure 338
 (λX args a=>match args with
  |[.ab k 1 f]=>X.bq (LH k f) (a (.int z (du (aM f) k)))
  |_=>X.fail)
 λX sem hX args a h=>by
  split at h
  ·obtain⟨b,c⟩:=hX.bq _ _ h
   obtain⟨d,e,g⟩:=mQ b
   exact⟨_,c,λ_=>rfl,λ_=>rfl,(Qd e g).dq ⟨cy d,trivial⟩⟩
  ·exact zR
def Mn{n:Nat}(hn:n<9223372036854775808):af PP II 336 [.int z n] HP (.ret (kA n 1) HP):=by
 refine kz (T:=[]) ((Mm n _).mpr ?_)
 have e1:c_ (n:Int)=n:=rfl
 rw[e1]
 refine Ze ?_ ?_
 ·rw[bW (Int.natCast_nonneg n),aq (n:=(n:Int)) O O];rfl
 ·exactλ_=>⟨rfl,rfl,trivial⟩
def AB:aC PP II:=aC.l8 336
 (λX args a=>match args with
  |[.int z n]=>X.bq (a_ (0<=n)&&aN z n) (a (kA n.toNat 1))
  |_=>X.fail)
 λX sem hX args a h=>by
  split at h
  ·rename_i n
   obtain⟨b,c⟩:=hX.bq _ _ h
   simp only[bf,bn,nK]at b
   refine⟨_,c,λ_=>rfl,λ_=>rfl,?_⟩
   have:=Mn (n:=n.toNat) O
   grind
  ·exact zR
def Kg(k:Nat)(W C:Nat->Int)(i:Nat):St:={t:=h_ [(0,.ab k 1 (ae W)),(3,.int z (C i)),(4,.int z (M i))],nt:=25,H:=d_ 12,df:=[]}
def Kh(v:Int):GE:=.one (.x 0 {t:=h_ [(3,.int z v)],nt:=25,H:=d_ 12,df:=[]})
def IU(k)(W C)(i)(Q):(kr [] [] 148 5004 12 (Kg k W C) (λ_=>Kh (C k)) (λi=>i+1) Q i)=(ah (a_ (M i<M k)) (aa (a_ (0<=M i)&&a_ (M i<M k)) (aa (aN z (M i+1)) (aH (if W (c_ (M i))>C i then W (c_ (M i))else C i) (C (i+1)) (zyN k (zyR k (ae W) (aH (M i+1) (M (i+1)) Q)))))) (aH (C i) (C k) True)):=U
def Qe(k)(W C)(Q):(kb [] [(5004,12,Kg k W C 1,Kh (C k))] 148 [.ab k 1 (ae W)] Q)=(ah (a_ (M k<1)) False (aa (a_ (0<M k)) (eu PP II false (aD II 148 5004) 12 (Kg k W C 1) (Kh (C k))/\aH (W 0) (C 1) (zyN k (zyR k (ae W) (Q (k_ z (C k)))))))):=U
def IV(k)(W C)(i)(Q):(kr [] [] 147 5004 12 (Kg k W C) (λ_=>Kh (C k)) (λi=>i+1) Q i)=(ah (a_ (M i<M k)) (aa (a_ (0<=M i)&&a_ (M i<M k)) (aa (aN z (M i+1)) (aH (if W (c_ (M i))<C i then W (c_ (M i))else C i) (C (i+1)) (zyN k (zyR k (ae W) (aH (M i+1) (M (i+1)) Q)))))) (aH (C i) (C k) True)):=U
def Qf(k)(W C)(Q):(kb [] [(5004,12,Kg k W C 1,Kh (C k))] 147 [.ab k 1 (ae W)] Q)=(ah (a_ (M k<1)) False (aa (a_ (0<M k)) (eu PP II false (aD II 147 5004) 12 (Kg k W C 1) (Kh (C k))/\aH (W 0) (C 1) (zyN k (zyR k (ae W) (Q (k_ z (C k)))))))):=U
def cG(W:Nat->Int):Nat->Int
 |0=>W 0
 |i+1=>if W i>cG W i then W i else cG W i
def IW{k W}(d:k<=1000000000000)(c:0<k):eu PP II false (aD II 148 5004) 12 (Kg k W (cG W) 1) (Kh (cG W k)):=
 eu.of (ι:=Nat) Hs [] (bm PP II []) 1000 12 (λi=>i<=k) (Kg k W (cG W)) (λ_=>Kh (cG W k)) (λi=>k-i) (λi=>i+1) 1 A c λi hi=>by
  have a:an k (ae W) (ae W):=Zj λ_ _=>zM _ _ _
  refine(IU k W _ i _).mpr (Zh (λh=>?_) λh=>?_)
  ·have b:i<k:=by simp only[bn]at h;exact Int.ofNat_lt.1 h
   refine Ze zI (Ze (aq Y Y) ?_)
   exact Zf A (YG A ⟨a,Zf A Y⟩)
  ·have b:i=k:=by
    simp only[iK]at h
    have :¬ i<k:=ZD
    omega
   subst b
   exact Zf A trivial
def Qg{k W}(a:k<=1000000000000)(b:0<k):af PP II 148 [.ab k 1 (ae W)] (d_ 12) (.ret (.int z (cG W k)) (d_ 12)):=
 bY (T:=[(5004,12,Kg k W (cG W) 1,Kh (cG W k))]) (λ_=>⟨rfl,rfl⟩) ((Qe k W _ _).mpr (Zh (λh=>by
  grind) λ_=>Ze Y ⟨IW a b,Zf (by
   show W 0=if W 0>W 0 then W 0 else W 0
   split<;>rfl) (YG A ⟨Zj λ_ _=>zM _ _ _,rfl⟩)⟩))
def Mo:aC PP II:=aC.pure 148
 (λX args b=>match args with
  |[.ab k 1 f]=>X.bq (bA k f&&m_ k 1000000000000&&p_ 0 k) (b (.int z (cG (aM f) k)))
  |_=>X.fail)
 λX sem hX args b h=>by
  split at h
  ·obtain⟨a,c⟩:=hX.bq _ _ h
   simp only[bf,o_]at a
   exact⟨_,c,λ_=>rfl,λ_=>rfl,(Qg ZD a.2).dq ⟨cy a.1.1,trivial⟩⟩
  ·exact zR
def jc(W:Nat->Int):Nat->Int
 |0=>W 0
 |i+1=>if W i<jc W i then W i else jc W i
def IX{k W}(d:k<=1000000000000)(c:0<k):eu PP II false (aD II 147 5004) 12 (Kg k W (jc W) 1) (Kh (jc W k)):=
 eu.of (ι:=Nat) Hs [] (bm PP II []) 1000 12 (λi=>i<=k) (Kg k W (jc W)) (λ_=>Kh (jc W k)) (λi=>k-i) (λi=>i+1) 1 A c λi hi=>by
  have a:an k (ae W) (ae W):=Zj λ_ _=>zM _ _ _
  refine(IV k W _ i _).mpr (Zh (λh=>?_) λh=>?_)
  ·have b:i<k:=by simp only[bn]at h;exact Int.ofNat_lt.1 h
   refine Ze zI (Ze (aq Y Y) ?_)
   exact Zf A (YG A ⟨a,Zf A Y⟩)
  ·have b:i=k:=by
    simp only[iK]at h
    have :¬ i<k:=ZD
    omega
   subst b
   exact Zf A trivial
def Qh{k W}(a:k<=1000000000000)(b:0<k):af PP II 147 [.ab k 1 (ae W)] (d_ 12) (.ret (.int z (jc W k)) (d_ 12)):=
 bY (T:=[(5004,12,Kg k W (jc W) 1,Kh (jc W k))]) (λ_=>⟨rfl,rfl⟩) ((Qf k W _ _).mpr (Zh (λh=>by
  grind) λ_=>Ze Y ⟨IX a b,Zf (by
   show W 0=if W 0<W 0 then W 0 else W 0
   split<;>rfl) (YG A ⟨Zj λ_ _=>zM _ _ _,rfl⟩)⟩))
def SJ:aC PP II:=aC.pure 147
 (λX args b=>match args with
  |[.ab k 1 f]=>X.bq (bA k f&&m_ k 1000000000000&&p_ 0 k) (b (.int z (jc (aM f) k)))
  |_=>X.fail)
 λX sem hX args b h=>by
  split at h
  ·obtain⟨a,c⟩:=hX.bq _ _ h
   simp only[bf,o_]at a
   exact⟨_,c,λ_=>rfl,λ_=>rfl,(Qh ZD a.2).dq ⟨cy a.1.1,trivial⟩⟩
  ·exact zR
section
open Go.Proofs Go.Sort
def lz(n:Nat)(W:Nat->Int):AH:={n:=13,t:=h_ [(12,.rows n 1 (ae W) (.ty 3))]}
def jd(n:Nat)(W:Nat->Int):List Value:=(b_ n).map λi=> .int z (W i)
def oF{ρ}:∀{a b vs},aU ρ (a++b) vs->∃us ws,vs=us++ws/\aU ρ a us/\aU ρ b ws
 |[],_,vs,h=>⟨[],vs,rfl,rfl,h⟩
 |_::_,_,_,⟨u,us,e,h1,c⟩=>by
  obtain⟨x,y,rfl,d,f⟩:=oF c
  exact⟨u::x,y,e,⟨u,x,rfl,h1,d⟩,f⟩
def Co{ρ W}:∀{n vs},aU ρ (rowsOf n (ae W)) vs->vs=jd n W
 |0,vs,h=>h
 |n+1,vs,h=>by
  rw[show rowsOf (n+1) (ae W)=rowsOf n (ae W)++[.int z (W n)] by simp[rowsOf,ae,g_]]at h
  obtain⟨us,ws,rfl,b,u,c,rfl,a,rfl⟩:=oF h
  rw[Co b]
  have a:u= .int z (W n):=a
  rw[a]
  simp[jd,g_]
def Cp{ρ W}:∀(n),aU ρ (rowsOf n (ae W)) (jd n W)
 |0=>rfl
 |n+1=>by
  rw[show rowsOf (n+1) (ae W)=rowsOf n (ae W)++[.int z (W n)] by simp[rowsOf,ae,g_],show jd (n+1) W=jd n W++[.int z (W n)] by simp[jd,g_]]
  exact(Cp n).append ⟨_,[],rfl,rfl,rfl⟩
def xP{n W a}(rest):putCells (f_ z) 0 ((b_ n).map a).toArray (jd n W++rest).toArray=(jd n a++rest).toArray:=by
 have hl:(jd n W).length=n:=by simp[jd]
 have b:(jd n a).length=n:=by simp[jd]
 apply Array.ext_getElem?
 intro k
 simp only[putCells,Array.getElem?_mapIdx,i_]
 by_cases hk:k<n
 ·rw[e_ O,e_ O]
  simp[jd,hk]
 grind
def af.Qi{P:Program}{I:ba}{f g:FuncId}{n:Nat}{W a:Nat->Int}(S:0<n)(F:∀(vs:Array Value)(w:World),(callFunc f vs).run P w= .ok (.enter f vs) w)
  (h:∀(r cap:Nat)(w:World),Holds (f_ z) w r 0 ((b_ n).map W).toArray->r<w.heap.size->Calls P f #[.slice (some ⟨r,0,none⟩) n cap,.func (.func g) #[] #[]] w λe w'=>e= .returned (.tuple #[])/\∃m os,w'=sortWorld (f_ z) w r 0 m ((b_ n).map a).toArray os):
  af P I f [.own 12 n 1,.fn g [] []] (lz n W) (.ret (.qP []) (lz n a)):=by
 intro c ρ w vs hG d C
 obtain⟨u,us,rfl,e1,T,G,rfl,H,rfl⟩:=d
 obtain⟨a1,a2,rfl,s,t⟩:=H
 have s:a1=[]:=s
 have t:a2=[]:=t
 subst s t
 rcases e1 with⟨e,_⟩|⟨b,N,cap,D,rfl,J,K⟩
 ·omega
 have l:bp ρ w (ρ 12) (.rows n 1 (ae W) (.ty 3)):=C.dF 12
 have y:((lz n W).get 12).rw=true:=rfl
 rw[D]at l
 rcases l.2 with⟨_,e⟩|⟨U,V,vs,rest,el,fr,h1,o,L,Q,E,X,Y⟩
 ·cases e
 cases h1
 cases Co Q
 have B:b<w.heap.size:=(Array.getElem?_eq_some_iff.1 o).1
 have hl:(jd n W).length=n:=by simp[jd]
 have R:Holds (f_ z) w b 0 ((b_ n).map W).toArray:=by
  intro j q
  have q:j<n:=by simpa using q
  refine⟨?_,?_⟩
  ·show(match w.heap[b]? with|some (.cells c _ _)=>_|_=>_)=_
   rw[o]
   show(jd n W++rest).toArray[0+j]? =Option.some (f_ z (((b_ n).map W).toArray)[j]!)
   rw[Nat.zero_add,i_,e_ (by rw[hl];exact q)]
   simp[jd,q]
  ·show(match w.heap[b]? with|some (.cells _ _ (lo,hi))=>_|_=>_)=_
   rw[o]
   obtain⟨lo,hi⟩:=fr
   have Z:=E.w A j O
   grind
 refine .inl ⟨F _ _,(h b cap w R B).mono ?_⟩
 rintro e w' ⟨rfl,m,os,rfl⟩
 have ht:Rel c ρ ((lz n W).set 12 (.rows n 1 (ae a) (.ty 3))) (putRow (f_ z) (Sort.ahead w m) b 0 ((b_ n).map a).toArray):=by
  refine C.fC _ y D (λk l=>?_) ?_ A A A ?_
  ·show(w.heap.modify b _)[k]? =_
   grind
  ·simp
  ·refine⟨λ_ _=>rfl,.inr ⟨b,N,jd n a,rest,el,fr,rfl,?_,?_,Cp n,E,?_,λe=>zG⟩⟩
   ·show(w.heap.modify b _)[b]? =_
    rw[Array.getElem?_modify,if_pos A,o]
    show some (Obj.cells _ _ _)=_
    rw[xP]
   ·rw[<-L];simp[jd]
   ·intro v d
    simp only[jd,List.mem_map]at d
    obtain⟨i,_,rfl⟩:=d
    rfl
 refine⟨ρ,Ext.refl ρ,(ht.under (w':=sortWorld (f_ z) w b 0 m ((b_ n).map a).toArray os) ⟨rfl,rfl,rfl,?_,λk l=>?_⟩).congr A (λi=>?_),⟨[],rfl,rfl⟩⟩
 ·show _<=(_++os).size
  simp
 ·show(_++os)[k]? =_
  grind
 rfl
end
def I7(lo hi)(b)(Q):(kb [] [] 95 [.agg [.int z lo,.int z hi,.bool b]] Q)=(Q (n_ b)):=U
def T5(lo hi)(b)(Q):(kb [] [] 97 [.agg [.int z lo,.int z hi,.bool b]] Q)=(Q (k_ z lo)):=U
def Ql(lo hi)(b)(Q):(kb [] [] 100 [.agg [.int z lo,.int z hi,.bool b]] Q)=(Q (k_ z hi)):=U
def Nc(a b c d)(Q):(kp [j8] [] 98 [.agg [.str a,.str b],.agg [.str c,.str d]] Q)=(aa (bJ a b&&bJ c d) (Q (n_ (a_ (bw (ao a) (ao b) (ao c) (ao d)<(0:Int)))))):=U
def Nd(a b c d)(Q):(kp [j8] [] 101 [.agg [.str a,.str b],.agg [.str c,.str d]] Q)=(aa (bJ a b&&bJ c d) (Q (n_ (a_ (bw (ao a) (ao b) (ao c) (ao d)>(0:Int)))))):=U
def tp:aC PP II:=aC.pure 95
 (λX args a=>match args with
  |[.agg [.int z _,.int z _,.bool b]]=>a (.bool b)
  |_=>X.fail)
 λX sem hX args a h=>by
  split at h
  ·exact⟨_,h,λ_=>rfl,λ_=>rfl,bY (T:=[]) (ks:=[]) (λ_=>rfl) ((I7 _ _ _ _).mpr A)⟩
  ·exact zR
def mR:aC PP II:=aC.pure 97
 (λX args a=>match args with
  |[.agg [.int z lo,.int z _,.bool _]]=>a (.int z lo)
  |_=>X.fail)
 λX sem hX args a h=>by
  split at h
  ·exact⟨_,h,λ_=>rfl,λ_=>rfl,bY (T:=[]) (ks:=[]) (λ_=>⟨rfl,rfl⟩) ((T5 _ _ _ _).mpr A)⟩
  ·exact zR
def je:aC PP II:=aC.pure 100
 (λX args a=>match args with
  |[.agg [.int z _,.int z hi,.bool _]]=>a (.int z hi)
  |_=>X.fail)
 λX sem hX args a h=>by
  split at h
  ·exact⟨_,h,λ_=>rfl,λ_=>rfl,bY (T:=[]) (ks:=[]) (λ_=>⟨rfl,rfl⟩) ((Ql _ _ _ _).mpr A)⟩
  ·exact zR
def Nf{a b c d}(e:bJ a b=true)(f:bJ c d=true):af PP II 98 [.agg [.str a,.str b],.agg [.str c,.str d]] HP (.ret (.bool (a_ (bw (ao a) (ao b) (ao c) (ao d)<0))) HP):=
 kz (T:=[]) ((Nc a b c d _).mpr (Ze (by rw[e,f];rfl) λ_=>rfl))
def Ng{a b c d}(e:bJ a b=true)(f:bJ c d=true):af PP II 101 [.agg [.str a,.str b],.agg [.str c,.str d]] HP (.ret (.bool (a_ (bw (ao a) (ao b) (ao c) (ao d)>0))) HP):=
 kz (T:=[]) ((Nd a b c d _).mpr (Ze (by rw[e,f];rfl) λ_=>rfl))
def fO:aC PP II:=aC.l8 98
 (λX args f=>match args with
  |[.agg [.str a,.str b],.agg [.str c,.str d]]=>X.bq (bJ a b&&bJ c d) (f (.bool (a_ (bw (ao a) (ao b) (ao c) (ao d)<0))))
  |_=>X.fail)
 λX sem hX args f h=>by
  split at h
  ·obtain⟨e,g⟩:=hX.bq _ _ h
   simp only[bf]at e
   exact⟨_,g,λ_=>rfl,λ_=>rfl,Nf e.1 e.2⟩
  ·exact zR
def fP:aC PP II:=aC.l8 101
 (λX args f=>match args with
  |[.agg [.str a,.str b],.agg [.str c,.str d]]=>X.bq (bJ a b&&bJ c d) (f (.bool (a_ (bw (ao a) (ao b) (ao c) (ao d)>0))))
  |_=>X.fail)
 λX sem hX args f h=>by
  split at h
  ·obtain⟨e,g⟩:=hX.bq _ _ h
   simp only[bf]at e
   exact⟨_,g,λ_=>rfl,λ_=>rfl,Ng e.1 e.2⟩
  ·exact zR
end
end Go.Sx
