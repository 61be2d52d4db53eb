/- CertifyOpens is proved, part 33. -/
import Derived.Test.YtleifmkjbmhlpaaGreatDoorX32
import Derived.Test.YtleifmkjbmhlpaaGreatDoorX24
set_option linter.unusedVariables false
set_option linter.unusedSimpArgs false
set_option linter.unusedSectionVars false
section
set_option maxRecDepth 1000000
namespace Go.Sx
open Go
theorem CallGives.pureN {P:Program} {I:Info} {f:FuncId} {args:List AV} {a:AV} {H0 H:AH} {m:Nat} (h:CallGives P I f args H0 (.ret a H0)) (hn:H0.n=m) (hGm:I.G≤m) (hmn:m≤H.n) (hlow : ∀ i,m≤i→H0.get i= .dead)
  (hbase : ∀ i,i<m→H0.get i≠ .dead→H.get i=H0.get i∧ ∀ σ:Nat→Nat,(∀ j,j<m→σ j=j)→(H0.get i).ren σ=H0.get i) (hargs : ∀ σ,AVs.ren σ args=args) (ha : ∀ σ,a.ren σ=a):
  CallGives P I f args H (.ret a H):=by
 intro c ρ w vs hG hv hr
 let σ:Nat→Nat:=fun l=>if l<m then l else H.n+(l-m)
 have σlt : ∀ i,i<m→σ i=i:=fun i hi=>by simp only [σ,if_pos hi]
 have hlive : ∀ i,H0.get i≠ .dead→i<m:=fun i hi=>Nat.lt_of_not_le fun e=>hi (hlow i e)
 have hb : ∀ l,H0.get l≠ .dead→H.get (σ l)=(H0.get l).ren σ:=fun l hl=>by
  obtain ⟨e1,e2⟩:=hbase l (hlive l hl) hl
  rw [σlt l (hlive l hl),e2 σ σlt,e1]
 have hs:Sub I.G σ H0 H :=
  {lt:=fun l hl=>by rw [hn] at hl;rw [σlt l hl];omega
   ge:=fun l hl=>by
    rw [hn] at hl⊢
    have : ¬ l<m:=Nat.not_lt.2 hl
    simp only [σ,if_neg this]
   same:=hb
   inj:=fun l l' h1 h2 e=>by rw [σlt l (hlive l h1),σlt l' (hlive l' h2)] at e;exact e
   glob:=fun g hg=>⟨by rw [hn];omega,σlt g (by omega)⟩
   low:=fun l hl=>hlow l (by rw [hn] at hl;exact hl)}
 have ht:Sup σ H0 (CO.ret a H0).heap H H :=
  {n:=by show H.n=H.n+(H0.n-H0.n);omega
   old:=hb
   new:=fun l hl=>by
    rw [hn] at hl
    have : ¬ l<m:=Nat.not_lt.2 hl
    show H.get (σ l)=(H0.get l).ren σ
    rw [hlow l hl]
    simp only [σ,if_neg this]
    rw [hr.low _ (by omega)]
    rfl
   rest:=fun _ _ _=>rfl}
 have:=h.lift hs ht
 rw [hargs] at this
 have e:(CO.ret a H0).into σ H= .ret a H:=by
  show CO.ret (a.ren σ) H=_
  rw [ha]
 rw [e] at this
 exact this c ρ w vs hG hv hr
theorem Hs_get (i:Nat): Hs.get i=if i=13 then Hs.get 13 else if i=3 then Hs.get 3 else if i=2 then .cells constAVs .ro else if i=1 then Hs.get 1 else if i=0 then Hs.get 0 else .dead:=by
 by_cases h1:i=13
 ·rw [if_pos h1,h1]
 by_cases h3:i=3
 ·rw [if_neg h1,if_pos h3,h3]
 by_cases h4:i=2
 ·rw [if_neg h1,if_neg h3,if_pos h4,h4];rfl
 by_cases h5:i=1
 ·rw [if_neg h1,if_neg h3,if_neg h4,if_pos h5,h5]
 by_cases h6:i=0
 ·rw [if_neg h1,if_neg h3,if_neg h4,if_neg h5,if_pos h6,h6]
 rw [if_neg h1,if_neg h3,if_neg h4,if_neg h5,if_neg h6]
 unfold Hs
 simp only [AH.get,Tr.ofList,Tr.get_set,Tr.get_e]
 simp [h1,h3,h4,h5,h6]
theorem Hs_live {P:Nat→ABlk→Prop} (h0:P 0 (Hs.get 0)) (h1:P 1 (Hs.get 1)) (h2:P 2 (.cells constAVs .ro)) (h3:P 3 (Hs.get 3)) (h13:P 13 (Hs.get 13)) (hd : ∀ i,P i .dead) (i:Nat): P i (Hs.get i):=by
 rw [Hs_get]
 split
 ·rename_i h;rw [h];exact h13
 split
 ·rename_i h;rw [h];exact h3
 split
 ·rename_i h;rw [h];exact h2
 split
 ·rename_i h;rw [h];exact h1
 split
 ·rename_i h;rw [h];exact h0
 exact hd i
open Classical in
theorem HsOk_ok {H:AH} (h:HsOk H=true): 14≤H.n∧ ∀ i,Hs.get i≠ .dead→H.get i=Hs.get i:=by
 unfold HsOk hsIs at h
 simp only [Bool.and_eq_true,decide_eq_true_eq] at h
 obtain ⟨⟨h1,h2⟩,h3,h4,h5,h7⟩:=h
 refine ⟨Nat.le_of_ble_eq_true h1,fun i=>?_⟩
 exact Hs_live (P:=fun i b=>b≠ .dead→H.get i=b) (fun _=>h3) (fun _=>h4) (fun _=>roInts_eq h2) (fun _=>h5) (fun _=>h7) (fun i e=>absurd rfl e) i
theorem constAVs_ren (σ:Nat→Nat): AVs.ren σ constAVs=constAVs:=by
 have : ∀ l:List AV,(∀ a∈l,a.ren σ=a)→AVs.ren σ l=l:=fun l hl=>by
  induction l with
  | nil=>rfl
  | cons a l ih=>show a.ren σ::AVs.ren σ l=_;rw [hl a (List.mem_cons_self ..),ih fun b hb=>hl b (List.mem_cons_of_mem _ hb)]
 exact this _ fun a ha=>by
  unfold constAVs at ha
  obtain ⟨x,_,rfl⟩:=List.mem_map.1 ha
  rfl
theorem ops_le (σ:Nat→Nat) (i:Nat): AVs.le σ (opsRow i) (opsRow i):=by
 unfold opsRow
 split
 ·exact ⟨rfl,trivial,trivial⟩
 ·exact ⟨rfl,⟨rfl,trivial,trivial⟩,trivial⟩
 ·exact ⟨rfl,⟨rfl,trivial,trivial⟩,trivial⟩
 ·exact ⟨rfl,⟨rfl,trivial,trivial⟩,trivial⟩
 ·exact ⟨rfl,⟨rfl,trivial,trivial⟩,trivial⟩
theorem sane_ok:CallGives PP II 9 [] Hs (.ret (.bool true) Hs):=by
 obtain ⟨o,h1,h2⟩:=kbody_ok hII (ks9++[kTry ks9]) (lamT_ok PP II []) 1000 9 [] Hs (fun a H=>Asks (HsOk H) (a= .bool true)) (fun _ _=>False) (by
  have:=sane_run fun b a=>Asks b (a= .bool true)
  rw [this]
  exact Asks.mk (by unfold hsIs;simp) rfl)
 cases o with
 | ret a H1=>
  obtain ⟨k0,k1⟩:=Asks.and h1
  have k1:a= .bool true:=k1
  subst k1
  obtain ⟨k2,k3⟩:=HsOk_ok k0
  refine h2.le (ResLe.of [] (HeapLe.of rfl rfl rfl (by rfl) (Nat.ble_eq_true_of_le k2) (allN_iff.2 fun l hl=>?_)) rfl)
  have hl:l<14:=hl
  have σe : ∀ j,j<14→sig Hs.n [] H1.n j=j:=fun j hj=>by
   unfold sig
   rw [show Nat.blt j Hs.n=true from (Nat.blt_eq ..).mpr hj];rfl
  have hle : ∀ b:ABlk,(b≠ .dead→H1.get l=b)→b.le (sig Hs.n [] H1.n) b→okBlk (sig Hs.n [] H1.n) H1.n l H1 b:=fun b hb hr=>by
   unfold okBlk
   split
   ·trivial
   ·rename_i hnd
    rw [σe l hl,if_pos (by omega),hb (fun e=>hnd e)]
    exact hr
  have e13:=σe 13 (by omega)
  refine hle _ (k3 l) ?_
  exact Hs_live (P:=fun _ b=>b.le (sig Hs.n [] H1.n) b) ⟨⟨⟨rfl,rfl,fun i _=>ops_le _ i⟩,trivial⟩,trivial⟩ ⟨⟨rfl,rfl,trivial⟩,trivial⟩ ⟨constAVs_le _,trivial⟩ ⟨⟨e13.symm,trivial⟩,trivial⟩
   ⟨rfl,⟨⟨rfl,rfl⟩,⟨rfl,rfl⟩,⟨rfl,rfl⟩,⟨rfl,rfl⟩,⟨rfl,rfl⟩,trivial⟩,⟨⟨⟨rfl,trivial,trivial⟩,trivial⟩,⟨⟨rfl,trivial,trivial⟩,trivial⟩,⟨⟨rfl,trivial,trivial⟩,trivial⟩,⟨⟨rfl,trivial,trivial⟩,trivial⟩,⟨⟨rfl,trivial,trivial⟩,trivial⟩,trivial⟩⟩ (fun _=>trivial) l
 | pan a H1=>exact h1.elim
noncomputable def kSane:Known PP II where
 f:=9
 spec X args H kn _:=match args with
  | []=>X.assert (HsOk H) (kn (.bool true) H)
  | _=>X.fail
 ok X sem hX args H kn kp h:=by
  split at h
  ·obtain ⟨h0,h1⟩:=hX.assert _ _ h
   obtain ⟨k2,k3⟩:=HsOk_ok h0
   refine ⟨.ret (.bool true) H,h1,sane_ok.pureN (m:=14) rfl (by decide) k2 (fun i hi=>?_) (fun i hi hd=>⟨k3 i hd,fun σ hσ=>?_⟩) (fun _=>rfl) (fun _=>rfl)⟩
   ·rw [Hs_get,if_neg (by omega),if_neg (by omega),if_neg (by omega),if_neg (by omega),if_neg (by omega)]
   ·have e13:=hσ 13 (by omega)
    refine Hs_live (P:=fun _ b=>b.ren σ=b) rfl rfl ?_ ?_ rfl (fun _=>rfl) i
    ·show ABlk.cells (AVs.ren σ constAVs) .ro=_
     rw [constAVs_ren]
    ·show ABlk.cells [.map (some (σ 13))] .ro=_
     rw [e13];rfl
  ·exact absurd h hX.fail
end Go.Sx
end
section
set_option maxRecDepth 1000000
namespace Go.Sx
open Go
def labT (G:Nat) (ls:List Nat) (n:Nat) (l:Nat): Nat:=if l<G then l else match ls[l-G]? with | some x=>x | none=>n+(l-(G+ls.length))
theorem CallGives.liftL {P:Program} {I:Info} {f:FuncId} {args0 args:List AV} {H0 H0':AH} {a0 a:AV} (h:CallGives P I f args0 H0 (.ret a0 H0')) {ls:List Nat} {H H':AH}
  (hn:H0.n=I.G+ls.length) (hlow : ∀ i,i<I.G→H0.get i= .dead) (hhigh : ∀ i,I.G+ls.length≤i→H0.get i= .dead)
  (hl : ∀ (q l:Nat),ls[q]? =some l→I.G≤l∧l<H.n)
  (hs : ∀ (q l:Nat),ls[q]? =some l→H0.get (I.G+q)≠ .dead→H.get l=(H0.get (I.G+q)).ren (labT I.G ls H.n))
  (hi : ∀ (q q' l:Nat),ls[q]? =some l→ls[q']? =some l→H0.get (I.G+q)≠ .dead→H0.get (I.G+q')≠ .dead→q=q')
  (h1:H'.n=H.n+(H0'.n-H0.n))
  (h2 : ∀ (q l:Nat),ls[q]? =some l→H0.get (I.G+q)≠ .dead→H'.get l=(H0'.get (I.G+q)).ren (labT I.G ls H.n))
  (h3:(∀ l,H.n≤l→H.get l= .dead)→ ∀ j,H'.get (H.n+j)=(H0'.get (I.G+ls.length+j)).ren (labT I.G ls H.n))
  (h4 : ∀ l,l<H.n→(∀ (q:Nat),ls[q]? =some l→H0.get (I.G+q)= .dead)→H'.get l=H.get l):
  (AVs.ren (labT I.G ls H.n) args0=args→a0.ren (labT I.G ls H.n)=a→I.G≤H.n→CallGives P I f args H (.ret a H')):=by
 intro ea er hG c ρ w vs hGc hv hr
 have live : ∀ l,H0.get l≠ .dead→I.G≤l∧l<I.G+ls.length:=fun l hd=>⟨Nat.le_of_not_lt fun e=>hd (hlow l e),Nat.lt_of_not_le fun e=>hd (hhigh l e)⟩
 have at_ : ∀ l,I.G≤l→l<I.G+ls.length→ ∃ x,ls[l-I.G]? =some x∧labT I.G ls H.n l=x:=fun l a b=>by
  have:l-I.G<ls.length:=by omega
  refine ⟨ls[l-I.G],List.getElem?_eq_getElem this,?_⟩
  unfold labT
  rw [if_neg (by omega),List.getElem?_eq_getElem this]
 have new_ : ∀ l,I.G+ls.length≤l→labT I.G ls H.n l=H.n+(l-(I.G+ls.length)):=fun l a=>by
  unfold labT
  rw [if_neg (by omega),List.getElem?_eq_none (by omega)]
 have hsub:Sub I.G (labT I.G ls H.n) H0 H :=
  {lt:=fun l hlt=>by
    rw [hn] at hlt
    by_cases e:l<I.G
    ·unfold labT;rw [if_pos e];omega
    ·obtain ⟨x,k1,k2⟩:=at_ l (by omega) hlt
     rw [k2];exact (hl _ _ k1).2
   ge:=fun l hge=>by rw [hn] at hge⊢;exact new_ l hge
   same:=fun l hd=>by
    obtain ⟨a,b⟩:=live l hd
    obtain ⟨x,k1,k2⟩:=at_ l a b
    have e:I.G+(l-I.G)=l:=by omega
    have:=hs _ _ k1 (by rw [e];exact hd)
    rw [e] at this
    rw [k2];exact this
   inj:=fun l l' hd hd' he=>by
    obtain ⟨a,b⟩:=live l hd
    obtain ⟨a',b'⟩:=live l' hd'
    obtain ⟨x,k1,k2⟩:=at_ l a b
    obtain ⟨x',k1',k2'⟩:=at_ l' a' b'
    rw [k2,k2'] at he
    subst he
    have e:I.G+(l-I.G)=l:=by omega
    have e':I.G+(l'-I.G)=l':=by omega
    have:=hi _ _ _ k1 k1' (by rw [e];exact hd) (by rw [e'];exact hd')
    omega
   glob:=fun g hg=>⟨by rw [hn];omega,by unfold labT;rw [if_pos hg]⟩
   low:=fun l hle=>hhigh l (by rw [hn] at hle;exact hle)}
 have hsup:Sup (labT I.G ls H.n) H0 (CO.ret a0 H0').heap H H' :=
  {n:=h1
   old:=fun l hd=>by
    obtain ⟨a,b⟩:=live l hd
    obtain ⟨x,k1,k2⟩:=at_ l a b
    have e:I.G+(l-I.G)=l:=by omega
    have:=h2 _ _ k1 (by rw [e];exact hd)
    rw [e] at this
    rw [k2];exact this
   new:=fun l hle=>by
    rw [hn] at hle
    rw [new_ l hle]
    have:=h3 hr.low (l-(I.G+ls.length))
    rw [show I.G+ls.length+(l-(I.G+ls.length))=l by omega] at this
    exact this
   rest:=fun l hlt hk=>h4 l hlt fun q hq=>by
    cases hd:H0.get (I.G+q) with
    | dead=>rfl
    | _=>
     exfalso
     have hq':q<ls.length:=by
      refine Nat.lt_of_not_le fun e=>?_
      rw [List.getElem?_eq_none e] at hq;cases hq
     refine hk (I.G+q) (by rw [hd];exact fun e=>by cases e) ?_
     unfold labT
     rw [if_neg (by omega),show I.G+q-I.G=q by omega,hq]}
 have:=h.lift hsub hsup
 rw [ea] at this
 have e:(CO.ret a0 H0').into (labT I.G ls H.n) H'= .ret a H':=by
  show CO.ret (a0.ren (labT I.G ls H.n)) H'=_
  rw [er]
 rw [e] at this
 exact this c ρ w vs hGc hv hr
end Go.Sx
end
section
set_option maxRecDepth 1000000
namespace Go.Sx
open Go
structure QC where
 (nw:Nat) (f:Nat→List AV) (ng:Nat) (g:Nat→List AV) (a fl:Int) (nu de:List UInt8) (top:Int)
def qcAV (k:QC): List AV:=[.fslice k.nw 3 k.f,.fslice k.ng 1 k.g,.int .i64 k.a,.int .i64 k.fl,.str k.nu,.str k.de,.int .i64 k.top]
def qcOk (k:QC): Bool:=intsRows 3 k.nw k.f&&intsRows 1 k.ng k.g&&opsB k.nw (rowsX k.f)
def exN (nw:Nat) (C:Nat→Nat→Int) (x:Node): Bool:=exclF nw C (coverC x.lo x.hi)
def catR (m:Nat) (F:Nat→List AV) (l:List Piece) (j:Nat): List AV:=bif Nat.blt j m then F j else pieceAV (l.getD (j-m) openP)
open Classical in
noncomputable def rowsFree (F:Nat→List AV): Bool:=decide (∀ σ j,AVs.ren σ (F j)=F j∧AVs.le σ (F j) (F j))
open Classical in
noncomputable def treeOf (a:AV): Tree:=if h : ∃ t,treeAV t=a then h.choose else .leaf zeroFact
open Classical in
noncomputable def isTree (S:Tree→Prop) (a:AV): Bool:=decide (S (treeOf a)∧a=treeAV (treeOf a))
noncomputable def putN (nw:Nat) (f:Nat→List AV) (a:AV): Nat:=(piecesT (exN nw (rowsX f)) (treeOf a)).length
noncomputable def putR (nw:Nat) (f:Nat→List AV) (m:Nat) (F:Nat→List AV) (a:AV): Nat→List AV:=catR m F (piecesT (exN nw (rowsX f)) (treeOf a))
noncomputable def putH (k:QC) (n:Int) (m:Nat) (F:Nat→List AV): AH:={n:=16,t:=Tr.ofList [(12,.cells (qcAV k) (.ty 34)),(13,.cells [.int .i64 n,.own 15 m 29] (.ty 38)),(14,.cells [.fn 33 [] [.ptr 12 0 0 0,.ptr 13 0 0 0,.ptr 14 0 0 0]] (.ty 85)),(15,.rows m 29 F (.ty 48))]}
noncomputable def putH0 (k:QC) (n:Int): AH:={n:=15,t:=Tr.ofList [(12,.cells (qcAV k) (.ty 34)),(13,.cells [.int .i64 n,.nilSlice] (.ty 38)),(14,.cells [.fn 33 [] [.ptr 12 0 0 0,.ptr 13 0 0 0,.ptr 14 0 0 0]] (.ty 85))]}
noncomputable def putH1 (k:QC) (n:Int) (m:Nat) (F:Nat→List AV): AH:={n:=17,t:=Tr.ofList [(12,.cells (qcAV k) (.ty 34)),(13,.cells [.int .i64 n,.own 16 m 29] (.ty 38)),(14,.cells [.fn 33 [] [.ptr 12 0 0 0,.ptr 13 0 0 0,.ptr 14 0 0 0]] (.ty 85)),(16,.rows m 29 F (.ty 48))]}
def putArgs (t:Tree): List AV:=[treeAV t,.ptr 12 0 0 0,.ptr 13 0 0 0,.ptr 14 0 0 0]
def Puts (t:Tree): Prop := ∀ (k:QC) (n:Int) (m:Nat) (F:Nat→List AV),qcOk k=true→m+(piecesT (exN k.nw (rowsX k.f)) t).length≤1000000→rowsFree F=true→
 CallGives PP II 33 (putArgs t) (putH k n m F) (.ret (.tup []) (putH1 k n (m+(piecesT (exN k.nw (rowsX k.f)) t).length) (catR m F (piecesT (exN k.nw (rowsX k.f)) t))))
def Puts0 (t:Tree): Prop := ∀ (k:QC) (n:Int),qcOk k=true→(piecesT (exN k.nw (rowsX k.f)) t).length≤1000000→
 CallGives PP II 33 (putArgs t) (putH0 k n) (.ret (.tup []) (putH k n (piecesT (exN k.nw (rowsX k.f)) t).length (catR 0 (fun _=>[]) (piecesT (exN k.nw (rowsX k.f)) t))))
def labsOk (n lq lo lp la lq1 lo1 lp1:Nat): Bool:=Nat.beq lq lq1&&Nat.beq lo lo1&&Nat.beq lp lp1&&Nat.ble 12 lq&&Nat.ble 12 lo&&Nat.ble 12 lp&&Nat.ble 12 la&&Nat.blt lq n&&Nat.blt lo n&&Nat.blt lp n&&Nat.blt la n && !Nat.beq lq lo && !Nat.beq lq lp && !Nat.beq lq la && !Nat.beq lo lp && !Nat.beq lo la && !Nat.beq lp la
noncomputable def putEnd (S:Tree→Prop) {R:Type} (X:RI R) (a:AV) (H:AH) (lq lo lp la lq1 lo1 lp1 nw:Nat) (f:Nat→List AV) (ng:Nat) (g:Nat→List AV) (n:Int) (m:Nat) (F:Nat→List AV) (kn:AV→AH→R): R :=
 X.assert (labsOk H.n lq lo lp la lq1 lo1 lp1) (X.assert (isTree S a) (X.assert (rowsFree F&&intsRows 3 nw f&&intsRows 1 ng g&&opsB nw (rowsX f)&&decide (m+putN nw f a≤1000000))
  (kn (.tup []) (((H.set lo (.cells [.int .i64 n,.own H.n (m+putN nw f a) 29] (.ty 38))).set la .dead).new (.rows (m+putN nw f a) 29 (putR nw f m F a) (.ty 48))))))
noncomputable def putSpec (S:Tree→Prop) {R:Type} (X:RI R): Spec R:=fun args H kn _=>match args with
 | [a,.ptr lq 0 0 0,.ptr lo 0 0 0,.ptr lp 0 0 0]=>match H.get lq,H.get lo,H.get lp with
  | .cells [.fslice nw 3 f,.fslice ng 1 g,.int .i64 _,.int .i64 _,.str _,.str _,.int .i64 _] (.ty 34),.cells [.int .i64 n,.own la m 29] (.ty 38),.cells [.fn 33 [] [.ptr lq1 0 0 0,.ptr lo1 0 0 0,.ptr lp1 0 0 0]] (.ty 85)=>match H.get la with
   | .rows m1 29 F (.ty 48)=>X.assert (decide (m=m1)) (putEnd S X a H lq lo lp la lq1 lo1 lp1 nw f ng g n m F kn)
   | .cells cs (.ty 48)=>X.assert (decide (cs.length=m*29)) (putEnd S X a H lq lo lp la lq1 lo1 lp1 nw f ng g n m (cutRow cs 29) kn)
   | _=>X.fail
  | _,_,_=>X.fail
 | _=>X.fail
theorem treeOf_eq {t:Tree} (hinj : ∀ t',treeAV t'=treeAV t→t'=t): treeOf (treeAV t)=t:=by
 unfold treeOf
 have h : ∃ t',treeAV t'=treeAV t:=⟨t,rfl⟩
 rw [dif_pos h]
 exact hinj _ h.choose_spec
theorem kids_at {n n':Node} {x x':Fact} {k k':AV} (h:cellsOf n x k=cellsOf n' x' k'): k=k':=congrArg (fun l=>List.getD l 28 AV.any) h
theorem fact_at {n n':Node} {x x':Fact} {k k':AV} (h:cellsOf n x k=cellsOf n' x' k'): x=x':=by
 have g : ∀ j,getI (cellsOf n x k) j=getI (cellsOf n' x' k') j:=fun j=>by rw [h]
 have h0:x.t=x'.t:=g 18
 have h1:x.s=x'.s:=g 19
 have h2:x.v=x'.v:=g 20
 have h3:x.w=x'.w:=g 21
 have h4:x.o=x'.o:=g 22
 have h5:x.p=x'.p:=g 23
 have h6:x.d=x'.d:=g 24
 have h7:x.l=x'.l:=g 25
 have h8:x.h=x'.h:=g 26
 have h9:x.b=x'.b:=g 27
 cases x
 cases x'
 simp only at h0 h1 h2 h3 h4 h5 h6 h7 h8 h9
 subst h0 h1 h2 h3 h4 h5 h6 h7 h8 h9
 rfl
theorem pair_inj {p q p' q':AV} (h:AV.fslice 2 1 (pairRow p q)=AV.fslice 2 1 (pairRow p' q')): p=p'∧q=q':=by
 have hf:pairRow p q=pairRow p' q':=by injection h
 have e0:[p]=[p']:=congrFun hf 0
 have e1:[q]=[q']:=congrFun hf 1
 exact ⟨by injection e0,by injection e1⟩
theorem kids_inj : ∀ (t t':Tree),cellsOf (topF t) (factF t) (kidsF t)=cellsOf (topF t') (factF t') (kidsF t')→t=t'
 | .leaf x,.leaf y,h=>by rw [show x=y from fact_at h]
 | .leaf x,.node l r,h=>by
  have:=kids_at h
  simp only [kidsF] at this
  cases this
 | .node l r,.leaf x,h=>by
  have:=kids_at h
  simp only [kidsF] at this
  cases this
 | .node l r,.node l' r',h=>by
  have:=kids_at h
  simp only [kidsF] at this
  obtain ⟨h1,h2⟩:=pair_inj this
  injection h1 with h1
  injection h2 with h2
  rw [kids_inj l l' h1,kids_inj r r' h2]
theorem tree_inj {t t':Tree} (h:treeAV t=treeAV t'): t=t':=by
 unfold treeAV at h
 injection h with h
 exact kids_inj t t' h
theorem treeOf_tree (t:Tree): treeOf (treeAV t)=t:=treeOf_eq fun _ h=>tree_inj h
open Classical in
theorem isTree_tree {S:Tree→Prop} {t:Tree} (h:S t): isTree S (treeAV t)=true:=by
 unfold isTree
 rw [treeOf_tree]
 exact decide_eq_true ⟨h,rfl⟩
open Classical in
theorem rowsFree_ok {F:Nat→List AV} (h:rowsFree F=true) (σ:Nat→Nat) (j:Nat): AVs.ren σ (F j)=F j:=by
 unfold rowsFree at h
 exact (of_decide_eq_true h σ j).1
open Classical in
theorem rowsFree_le {F:Nat→List AV} (h:rowsFree F=true) (σ:Nat→Nat) (j:Nat): AVs.le σ (F j) (F j):=by
 unfold rowsFree at h
 exact (of_decide_eq_true h σ j).2
open Classical in
theorem rowsFree_mk {F:Nat→List AV} (h : ∀ σ j,AVs.ren σ (F j)=F j∧AVs.le σ (F j) (F j)): rowsFree F=true:=by
 unfold rowsFree
 exact decide_eq_true h
theorem AVs.le_app : ∀ {us us' bs bs':List AV} {σ:Nat→Nat},AVs.le σ us us'→AVs.le σ bs bs'→AVs.le σ (us++bs) (us'++bs')
 | [],[],_,_,_,_,h=>h
 | _::_,_::_,_,_,_,h1,h2=>⟨h1.1,AVs.le_app h1.2 h2⟩
theorem piece_le (p:Piece) (σ:Nat→Nat): AVs.le σ (pieceAV p) (pieceAV p):=⟨⟨rfl,rfl⟩,AVs.le_app (factAV_le σ p.x) (nodeAV_le σ p.nd)⟩
theorem piece_free (p:Piece) (σ:Nat→Nat): AVs.ren σ (pieceAV p)=pieceAV p:=rfl
theorem catR_free {m:Nat} {F:Nat→List AV} {l:List Piece} (h:rowsFree F=true): rowsFree (catR m F l)=true:=by
 refine rowsFree_mk fun σ j=>?_
 unfold catR
 cases Nat.blt j m with
 | true=>exact ⟨rowsFree_ok h σ j,rowsFree_le h σ j⟩
 | false=>exact ⟨piece_free _ σ,piece_le _ σ⟩
open Classical in
theorem isTree_ok {S:Tree→Prop} {a:AV} (h:isTree S a=true): ∃ t,S t∧a=treeAV t∧treeOf a=t:=by
 unfold isTree at h
 obtain ⟨h1,h2⟩:=of_decide_eq_true h
 exact ⟨treeOf a,h1,h2,rfl⟩
end Go.Sx
end
section
set_option maxRecDepth 1000000
namespace Go.Sx
open Go
theorem putH_get (k:QC) (n:Int) (m:Nat) (F:Nat→List AV) (l:Nat): (putH k n m F).get l=if l=15 then .rows m 29 F (.ty 48) else if l=14 then .cells [.fn 33 [] [.ptr 12 0 0 0,.ptr 13 0 0 0,.ptr 14 0 0 0]] (.ty 85) else if l=13 then .cells [.int .i64 n,.own 15 m 29] (.ty 38) else if l=12 then .cells (qcAV k) (.ty 34) else .dead:=by
 simp only [putH,AH.get,Tr.ofList,Tr.get_set,Tr.get_e]
 by_cases h1:l=15
 ·simp [h1]
 ·by_cases h2:l=14
  ·simp [h2]
  ·by_cases h3:l=13
   ·simp [h3]
   ·by_cases h4:l=12<;>simp [h1,h2,h3,h4]
theorem putH1_get (k:QC) (n:Int) (m:Nat) (F:Nat→List AV) (l:Nat): (putH1 k n m F).get l=if l=16 then .rows m 29 F (.ty 48) else if l=14 then .cells [.fn 33 [] [.ptr 12 0 0 0,.ptr 13 0 0 0,.ptr 14 0 0 0]] (.ty 85) else if l=13 then .cells [.int .i64 n,.own 16 m 29] (.ty 38) else if l=12 then .cells (qcAV k) (.ty 34) else .dead:=by
 simp only [putH1,AH.get,Tr.ofList,Tr.get_set,Tr.get_e]
 by_cases h1:l=16
 ·simp [h1]
 ·by_cases h2:l=14
  ·simp [h2]
  ·by_cases h3:l=13
   ·simp [h3]
   ·by_cases h4:l=12<;>simp [h1,h2,h3,h4]
theorem nbeq {a b:Nat} (h:(!Nat.beq a b)=true): a≠b:=fun e=>by
 rw [e,Nat.beq_refl] at h;cases h
theorem put_lift {t:Tree} (ht:Puts t) (k:QC) (n:Int) (m:Nat) (F:Nat→List AV) (h1:qcOk k=true) (h2:m+(piecesT (exN k.nw (rowsX k.f)) t).length≤1000000) (h3:rowsFree F=true) {H:AH} {lq lo lp la:Nat} (hlab:labsOk H.n lq lo lp la lq lo lp=true)
  (gq:H.get lq= .cells (qcAV k) (.ty 34)) (go:H.get lo= .cells [.int .i64 n,.own la m 29] (.ty 38)) (gp:H.get lp= .cells [.fn 33 [] [.ptr lq 0 0 0,.ptr lo 0 0 0,.ptr lp 0 0 0]] (.ty 85)) (ga:H.get la= .rows m 29 F (.ty 48)):
  CallGives PP II 33 [treeAV t,.ptr lq 0 0 0,.ptr lo 0 0 0,.ptr lp 0 0 0] H (.ret (.tup []) (((H.set lo (.cells [.int .i64 n,.own H.n (m+(piecesT (exN k.nw (rowsX k.f)) t).length) 29] (.ty 38))).set la .dead).new (.rows (m+(piecesT (exN k.nw (rowsX k.f)) t).length) 29 (catR m F (piecesT (exN k.nw (rowsX k.f)) t)) (.ty 48)))):=by
 have base:=ht k n m F h1 h2 h3
 have free:=catR_free (m:=m) (l:=piecesT (exN k.nw (rowsX k.f)) t) h3
 generalize m+(piecesT (exN k.nw (rowsX k.f)) t).length=M at*
 generalize catR m F (piecesT (exN k.nw (rowsX k.f)) t)=F' at*
 simp only [labsOk,Bool.and_eq_true] at hlab
 obtain ⟨⟨⟨⟨⟨⟨⟨⟨⟨⟨⟨⟨⟨⟨⟨⟨b1,b2⟩,b3⟩,b4⟩,b5⟩,b6⟩,b7⟩,b8⟩,b9⟩,b10⟩,b11⟩,b12⟩,b13⟩,b14⟩,b15⟩,b16⟩,b17⟩:=hlab
 have b4:=Nat.le_of_ble_eq_true b4
 have b5:=Nat.le_of_ble_eq_true b5
 have b6:=Nat.le_of_ble_eq_true b6
 have b7:=Nat.le_of_ble_eq_true b7
 rw [Nat.blt_eq] at b8 b9 b10 b11
 have b12:=nbeq b12
 have b13:=nbeq b13
 have b14:=nbeq b14
 have b15:=nbeq b15
 have b16:=nbeq b16
 have b17:=nbeq b17
 have q4 : ∀ (q l:Nat),[lq,lo,lp,la][q]? =some l→(q=0∧l=lq)∨(q=1∧l=lo)∨(q=2∧l=lp)∨(q=3∧l=la):=fun q l h=>by
  match q,h with
  | 0,h=>simp at h;omega
  | 1,h=>simp at h;omega
  | 2,h=>simp at h;omega
  | 3,h=>simp at h;omega
  | q+4,h=>simp at h
 refine base.liftL (ls:=[lq,lo,lp,la]) (H:=H) rfl (fun i hi=>?_) (fun i hi=>?_) (fun q l h=>?_) (fun q l h hd=>?_) (fun q q' l h h' _ _=>?_) ?_ (fun q l h hd=>?_) (fun hlow j=>?_) (fun l hl hk=>?_) rfl rfl ?_
 ·have hi:i<12:=hi
  rw [putH_get,if_neg (by omega),if_neg (by omega),if_neg (by omega),if_neg (by omega)]
 ·have hi:16≤i:=hi
  rw [putH_get,if_neg (by omega),if_neg (by omega),if_neg (by omega),if_neg (by omega)]
 ·show 12≤l∧l<H.n
  have:=q4 q l h;omega
 ·rcases q4 q l h with ⟨rfl,rfl⟩ | ⟨rfl,rfl⟩ | ⟨rfl,rfl⟩ | ⟨rfl,rfl⟩
  ·rw [gq];rfl
  ·rw [go];rfl
  ·rw [gp];rfl
  ·rw [ga]
   show _=ABlk.rows m 29 (fun i=>AVs.ren _ (F i)) (.ty 48)
   congr 1
   funext i
   exact (rowsFree_ok h3 _ i).symm
 ·have a:=q4 q l h
  have b:=q4 q' l h'
  omega
 ·show H.n+1=H.n+(17-16);omega
 ·rcases q4 q l h with ⟨rfl,rfl⟩ | ⟨rfl,rfl⟩ | ⟨rfl,rfl⟩ | ⟨rfl,rfl⟩
  ·rw [AH.get_new_ne _ _ (by show _≠H.n;omega),AH.get_set_ne _ _ (by omega),AH.get_set_ne _ _ (by omega),gq];rfl
  ·rw [AH.get_new_ne _ _ (by show _≠H.n;omega),AH.get_set_ne _ _ (by omega),AH.get_set_same]
   show _=ABlk.cells [.int .i64 n,.own (labT 12 [lq,l,lp,la] H.n 16) M 29] (.ty 38)
   rfl
  ·rw [AH.get_new_ne _ _ (by show _≠H.n;omega),AH.get_set_ne _ _ (by omega),AH.get_set_ne _ _ (by omega),gp];rfl
  ·rw [AH.get_new_ne _ _ (by show _≠H.n;omega),AH.get_set_same];rfl
 ·show _=((putH1 k n M F').get (12+4+j)).ren (labT 12 [lq,lo,lp,la] H.n)
  rw [putH1_get]
  by_cases hj:j=0
  ·subst hj
   rw [AH.get_new]
   refine (if_pos (show H.n+0=H.n from rfl)).trans ?_
   rw [if_pos rfl]
   show _=ABlk.rows M 29 (fun i=>AVs.ren _ (F' i)) (.ty 48)
   congr 1
   funext i
   exact (rowsFree_ok free _ i).symm
  ·rw [AH.get_new_ne _ _ (by show _≠H.n;omega),AH.get_set_ne _ _ (by omega),AH.get_set_ne _ _ (by omega),hlow _ (by omega)]
   rw [if_neg (by omega),if_neg (by omega),if_neg (by omega),if_neg (by omega)]
   rfl
 ·have h0:l≠lo:=fun e=>by subst e;have:=hk 1 rfl;rw [putH_get] at this;cases this
  have h1:l≠la:=fun e=>by subst e;have:=hk 3 rfl;rw [putH_get] at this;cases this
  rw [AH.get_new_ne _ _ (by show _≠H.n;omega),AH.get_set_ne _ _ (by omega),AH.get_set_ne _ _ (by omega)]
 ·show 12≤H.n;omega
theorem rowsOf_cutRow {cs:List AV} {n e:Nat} (he:0<e) (hl:cs.length=n*e): rowsOf n (cutRow cs e)=cs:=by
 have:=rowsOf_cut (cs:=cs) (o:=0) he (n:=n) (by omega)
 simp only [Nat.zero_add,List.drop_zero] at this
 unfold cutRow
 rw [this,←hl,List.take_length]
theorem Rel.cut {c:Ctx} {ρ:Env} {H:AH} {w:World} {la n e t:Nat} {cs:List AV} (h:Rel c ρ H w) (hb:H.get la= .cells cs (.ty t)) (hl:cs.length=n*e) (he:0<e): Rel c ρ (H.set la (.rows n e (cutRow cs e) (.ty t))) w:=by
 have gs : ∀ l,(H.set la (.rows n e (cutRow cs e) (.ty t))).get l=if l=la then .rows n e (cutRow cs e) (.ty t) else H.get l:=fun l=>AH.get_set H la l _
 have hrw : ∀ l,((H.set la (.rows n e (cutRow cs e) (.ty t))).get l).rw=(H.get l).rw:=fun l=>by
  rw [gs]
  by_cases e1:l=la
  ·rw [if_pos e1,e1,hb];rfl
  ·rw [if_neg e1]
 have hd : ∀ l,(H.set la (.rows n e (cutRow cs e) (.ty t))).get l≠ .dead→H.get l≠ .dead:=fun l=>by
  rw [gs]
  by_cases e1:l=la
  ·rw [if_pos e1,e1,hb];exact fun _ e2=>by cases e2
  ·rw [if_neg e1];exact id
 have hd2 : ∀ l,H.get l= .dead→(H.set la (.rows n e (cutRow cs e) (.ty t))).get l= .dead:=fun l hl=>by
  rw [gs]
  by_cases e1:l=la
  ·rw [e1,hb] at hl;cases hl
  ·rw [if_neg e1];exact hl
 refine ⟨fun l=>?_,fun l l' r N N' hne hr h1 h2=>?_,fun l r N hr h1=>?_,h.keep,h.size,h.os,h.output,h.tape,h.top,h.glob,fun l r N hd' h1=>h.hid l r N (hd l hd') h1,h.env,fun l hl=>hd2 l (h.low l hl),h.fro,fun l r N hr h1=>?_,h.frx,h.frk⟩
 ·rw [gs]
  by_cases e1:l=la
  ·subst e1
   rw [if_pos rfl]
   have hk:=h.blk l
   rw [hb] at hk
   refine ⟨fun i hi=>?_,?_⟩
   ·simp only [cutRow,List.length_take,List.length_drop]
    have:i*e+e≤n*e:=by
     have:=Nat.mul_le_mul_right e (show i+1≤n from hi)
     rw [Nat.add_mul,Nat.one_mul] at this;exact this
    omega
   ·rw [rowsOf_cutRow he hl];exact hk
  ·rw [if_neg e1];exact h.blk l
 ·rw [hrw] at hr
  exact hd2 l' (h.sep l l' r N N' hne hr h1 h2)
 ·rw [hrw] at hr;exact h.prot l r N hr h1
 ·rw [hrw] at hr;exact h.frw l r N hr h1
theorem CallGives.cut {f:FuncId} {args:List AV} {H H1 H':AH} {a:AV} {la n e t:Nat} {cs:List AV} (hb:H.get la= .cells cs (.ty t)) (hl:cs.length=n*e) (he:0<e)
  (h:CallGives PP II f args (H.set la (.rows n e (cutRow cs e) (.ty t))) (.ret a H1)) (hn:H'.n=H1.n) (hg : ∀ i,H'.get i=H1.get i): CallGives PP II f args H (.ret a H'):=by
 intro c ρ w vs hG hv hr
 have post : ∀ e w',(CO.ret a H1).post c ρ e w'→(CO.ret a H').post c ρ e w':=fun e w' hp=>by
  cases e with
  | returned v=>obtain ⟨ρ',k1,k2,k3⟩:=hp;exact ⟨ρ',k1,k2.congr hn hg,k3⟩
  | panicked ch=>exact hp.elim
  | outgrown=>exact hp.elim
 rcases h c ρ w vs hG hv (hr.cut hb hl he) with ⟨k1,k2⟩ | ⟨v,w',k1,k2⟩
 ·exact .inl ⟨k1,k2.mono fun e w'=>post e w'⟩
 ·exact .inr ⟨v,w',k1,post _ _ k2⟩
theorem putEnd_ok {S:Tree→Prop} (hS : ∀ t,S t→Puts t) {R:Type} {X:RI R} {sem:R→Prop} (hX:X.Ok sem) {a:AV} {H:AH} {lq lo lp la lq1 lo1 lp1 nw:Nat} {f:Nat→List AV} {ng:Nat} {g:Nat→List AV} {aa fl top n:Int} {nu de:List UInt8} {m:Nat} {F:Nat→List AV} {kn kp:AV→AH→R}
  (h:sem (putEnd S X a H lq lo lp la lq1 lo1 lp1 nw f ng g n m F kn)) (gq:H.get lq= .cells [.fslice nw 3 f,.fslice ng 1 g,.int .i64 aa,.int .i64 fl,.str nu,.str de,.int .i64 top] (.ty 34)) (go:H.get lo= .cells [.int .i64 n,.own la m 29] (.ty 38)) (gp:H.get lp= .cells [.fn 33 [] [.ptr lq1 0 0 0,.ptr lo1 0 0 0,.ptr lp1 0 0 0]] (.ty 85))
  (ga:H.get la= .rows m 29 F (.ty 48)∨ ∃ cs,H.get la= .cells cs (.ty 48)∧cs.length=m*29∧F=cutRow cs 29): ∃ o:CO,o.sem sem kn kp∧CallGives PP II 33 [a,.ptr lq 0 0 0,.ptr lo 0 0 0,.ptr lp 0 0 0] H o:=by
 unfold putEnd at h
 obtain ⟨h1,ha⟩:=hX.assert _ _ h
 obtain ⟨h2,hb⟩:=hX.assert _ _ ha
 obtain ⟨h3,hc⟩:=hX.assert _ _ hb
 clear h ha hb
 have hlab:=h1
 simp only [labsOk,Bool.and_eq_true] at h1
 have e1:=Nat.eq_of_beq_eq_true h1.1.1.1.1.1.1.1.1.1.1.1.1.1.1.1.1
 have e2:=Nat.eq_of_beq_eq_true h1.1.1.1.1.1.1.1.1.1.1.1.1.1.1.1.2
 have e3:=Nat.eq_of_beq_eq_true h1.1.1.1.1.1.1.1.1.1.1.1.1.1.1.2
 have d1:=nbeq h1.1.1.1.2
 have d2:=nbeq h1.1.2
 have d3:=nbeq h1.2
 subst e1 e2 e3
 simp only [Bool.and_eq_true,decide_eq_true_eq] at h3
 obtain ⟨⟨⟨⟨h4,h5⟩,h6⟩,h7⟩,h8⟩:=h3
 obtain ⟨t,ht,rfl,e⟩:=isTree_ok h2
 unfold putN at h8 hc
 unfold putR at hc
 rw [e] at h8 hc
 have hq:qcOk ⟨nw,f,ng,g,aa,fl,nu,de,top⟩=true:=by unfold qcOk;rw [h5,h6,h7];rfl
 rcases ga with ga | ⟨cs,ga,hcl,rfl⟩
 ·exact ⟨.ret (.tup []) _,hc,put_lift (hS t ht) ⟨nw,f,ng,g,aa,fl,nu,de,top⟩ n m F hq h8 h4 hlab gq go gp ga⟩
 ·refine ⟨.ret (.tup []) _,hc,CallGives.cut ga hcl (by omega) (put_lift (hS t ht) ⟨nw,f,ng,g,aa,fl,nu,de,top⟩ n m (cutRow cs 29) hq h8 h4 hlab ?_ ?_ ?_ ?_) rfl fun i=>?_⟩
  ·rw [AH.get_set_ne _ _ (fun e=>d1 e.symm)];exact gq
  ·rw [AH.get_set_ne _ _ (fun e=>d2 e.symm)];exact go
  ·rw [AH.get_set_ne _ _ (fun e=>d3 e.symm)];exact gp
  ·exact AH.get_set_same _ _ _
  ·rw [AH.get_new,AH.get_new]
   by_cases x1:i=H.n
   ·exact (if_pos x1).trans (if_pos x1).symm
   ·refine (if_neg x1).trans (Eq.trans ?_ (if_neg x1).symm)
    rw [AH.get_set,AH.get_set,AH.get_set,AH.get_set,AH.get_set]
    by_cases x2:i=la
    ·rw [if_pos x2,if_pos x2]
    ·simp only [if_neg x2];rfl
noncomputable def kPutT (S:Tree→Prop) (hS : ∀ t,S t→Puts t): Known PP II where
 f:=33
 spec X:=putSpec S X
 ok X sem hX args H kn kp h:=by
  unfold putSpec at h
  split at h
  ·rename_i a lq lo lp
   split at h
   ·rename_i nw f ng g aa fl nu de top n la m lq1 lo1 lp1 gq go gp
    split at h
    ·rename_i m1 F ga
     obtain ⟨h1,ha⟩:=hX.assert _ _ h
     have h1:=of_decide_eq_true h1
     subst h1
     exact putEnd_ok hS hX ha gq go gp (.inl ga)
    ·rename_i cs ga
     obtain ⟨h1,ha⟩:=hX.assert _ _ h
     exact putEnd_ok hS hX ha gq go gp (.inr ⟨cs,ga,of_decide_eq_true h1,rfl⟩)
    ·exact absurd h hX.fail
   ·exact absurd h hX.fail
  ·exact absurd h hX.fail
end Go.Sx
end
