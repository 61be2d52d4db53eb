/- CertifyOpens is proved, part 31. -/
import Derived.Test.YtleifmkjbmhlpaaGreatDoorX30
set_option linter.unusedVariables false
set_option linter.unusedSimpArgs false
set_option linter.unusedSectionVars false
section
set_option maxRecDepth 1000000
namespace Go.Sx
open Go
structure MSt where
 c:Bool
 lo:Int
 hi:Int
 n:Nat
 K:Nat→Int
def mNext (q:Query) (x:Fact) (j:Nat) (s:MSt): MSt where
 c:=s.c&&(decide (q.C j 0=8)||opF (q.C j 1) (valF x (q.C j 0) 0) (q.C j 2))
 lo:=if q.C j 0=8∧(q.C j 1=1∨q.C j 1=4) then (if q.C j 2>s.lo then q.C j 2 else s.lo) else s.lo
 hi:=if q.C j 0=8∧q.C j 1=1 then (if q.C j 2<s.hi then q.C j 2 else s.hi) else if q.C j 0=8∧q.C j 1=3 then (if q.C j 2-1<s.hi then q.C j 2-1 else s.hi) else s.hi
 n:=if q.C j 0=8∧q.C j 1=2∧isetIn (q.C j 2) s.K s.n=false then s.n+1 else s.n
 K:=if q.C j 0=8∧q.C j 1=2∧isetIn (q.C j 2) s.K s.n=false then isetSnoc s.n s.K (q.C j 2) else s.K
def mAt (q:Query) (x:Fact): Nat→MSt
 | 0=>⟨true,x.l,x.h,0,fun _=>0⟩
 | j+1=>mNext q x j (mAt q x j)
def mEnd (q:Query) (x:Fact): MSt:=mAt q x q.nw
def cntIn (lo hi:Int) (K:Nat→Int) (S:List Nat): Nat:=(S.filter fun j=>decide (lo≤K j)&&decide (K j≤hi)).length
def leftF (s:MSt) (S:List Nat): Int:=s.hi-s.lo+1-cntIn s.lo s.hi s.K S
def matLeft (q:Query) (x:Fact): Int:=leftF (mEnd q x) (List.range (mEnd q x).n)
def matC (q:Query) (x:Fact): Bool:=(mEnd q x).c&&decide (matLeft q x=x.h-x.l+1)
def matP (q:Query) (x:Fact): Bool:=(mEnd q x).c&&decide (matLeft q x>0)
theorem qok_conds {q:Query} (h:qok q=true): q.nw≤6∧ ∀ j,j<q.nw→(1≤q.C j 0∧q.C j 0≤8)∧(1≤q.C j 1∧q.C j 1≤4)∧(-1≤q.C j 2∧q.C j 2≤4398046511104):=by
 unfold qok at h
 simp only [Bool.and_eq_true,decide_eq_true_eq] at h
 exact ⟨h.1.1.1.1.1,fun j hj=>condsB_ok h.1.1.1.2 hj⟩
theorem mAt_bounds {q:Query} {x:Fact} (hq:qok q=true) (hl:0≤x.l∧x.l≤4398046511104) (hh:0≤x.h∧x.h≤4398046511104): ∀ j,j≤q.nw→(-2≤(mAt q x j).lo∧(mAt q x j).lo≤4398046511104)∧(-2≤(mAt q x j).hi∧(mAt q x j).hi≤4398046511104)∧(mAt q x j).n≤j
 | 0,_=>⟨⟨by show -2≤x.l;omega,hl.2⟩,⟨by show -2≤x.h;omega,hh.2⟩,Nat.le_refl _⟩
 | j+1,hj=>by
  obtain ⟨h1,h2,h3⟩:=mAt_bounds hq hl hh j (by omega)
  obtain ⟨_,_,k⟩:=(qok_conds hq).2 j (by omega)
  show (-2≤(mNext q x j (mAt q x j)).lo∧(mNext q x j (mAt q x j)).lo≤4398046511104)∧(-2≤(mNext q x j (mAt q x j)).hi∧(mNext q x j (mAt q x j)).hi≤4398046511104)∧(mNext q x j (mAt q x j)).n≤j+1
  simp only [mNext]
  generalize (mAt q x j).lo=a at*
  generalize (mAt q x j).hi=b at*
  generalize (mAt q x j).n=n at*
  refine ⟨?_,?_,?_⟩
  ·split
   ·split<;>omega
   ·omega
  ·split
   ·split<;>omega
   ·split
    ·split<;>omega
    ·omega
  ·split<;>omega
noncomputable def mS (q:Query) (x:Fact) (i:Int): St:=s14 q x (fun i=>(mAt q x i.toNat).c) (fun i=>(mAt q x i.toNat).c) (fun i=>(mAt q x i.toNat).lo) (fun i=>(mAt q x i.toNat).hi) (fun i=>(mAt q x i.toNat).n) (fun i=>(mAt q x i.toNat).K) i
noncomputable def mE (q:Query) (x:Fact): GE:=e14 x (mEnd q x).c (mEnd q x).c (mEnd q x).lo (mEnd q x).hi (mEnd q x).n (mEnd q x).K
theorem mat_loop (q:Query) (x:Fact) (hq:qok q=true): LoopAt PP II false (loopOf II 14 7001) 21 (mS q x 0) (mE q x):=by
 obtain ⟨hn,hc⟩:=qok_conds hq
 have key:=LoopAt.of (ι:=Nat) hII [kVal39] (lamT_ok PP II []) 1000 (c:=loopOf II 14 7001) (ir:=false) 21 (fun j=>j≤q.nw) (fun j=>mS q x (j:Int)) (fun _=>mE q x) (fun j=>q.nw-j) (fun j=>j+1) 0 rfl (Nat.zero_le _) fun j hj=>?_
 ·exact key
 by_cases hlt:j<q.nw
 ·have e1:((j:Int)).toNat=j:=by omega
  have e2:((j:Int)+1).toNat=j+1:=by omega
  have:=mat_round q x (fun i=>(mAt q x i.toNat).c) (fun i=>(mAt q x i.toNat).lo) (fun i=>(mAt q x i.toNat).hi) (fun i=>(mAt q x i.toNat).n) (fun i=>(mAt q x i.toNat).K) (mEnd q x).c (mEnd q x).lo (mEnd q x).hi (mEnd q x).n (mEnd q x).K (j:Int) j rfl hn hlt (hc j hlt).2.1 (hc j hlt).2.2
   (by rw [e1,e2];exact ⟨rfl,rfl,rfl,rfl,rfl⟩) (j+1≤q.nw∧q.nw-(j+1)<q.nw-j∧(mE q x).pick=(mE q x).pick) ⟨hlt,by omega,rfl⟩
  exact this
 ·have hj:j=q.nw:=by have:j≤q.nw:=hj;omega
  have done : ∀ (i:Int) (Q:Prop),i=(q.nw:Int)→kr [kVal39] [] 14 7001 21 (mS q x) (fun _=>mE q x) (fun i=>i+1) Q i:=fun i Q hiN=>by
   have e1:i.toNat=q.nw:=by omega
   refine (mat_step q x _ _ _ _ _ _ _ _ _ _ _ _ i Q).mpr ?_
   have en:Int.ofNat q.nw=(q.nw:Int):=rfl
   refine Cond.mkP (fun h=>absurd h (by omega)) fun _=>?_
   rw [e1]
   exact EqN.mk rfl ⟨fun _ _=>rfl,EqI.mk rfl (EqI.mk rfl (EqI.mk rfl (EqI.mk rfl (EqI.mk rfl (EqI.mk rfl (EqI.mk rfl (EqI.mk rfl (EqI.mk rfl (EqI.mk rfl ⟨opsRows,rfl,EqI.mk rfl ⟨rfl,EqI.mk rfl trivial⟩⟩)))))))))⟩
  exact done (j:Int) _ (by omega)
theorem walk_c:loopOf II 14 24002= .seq (.region (walkId (loopOf II 14 24002)) #[oper (loopOf II 14 24002) 0,oper (loopOf II 14 24002) 1] false) (walkY (loopOf II 14 24002)):=by kernel_rfl
theorem walk_o:(oper (loopOf II 14 24002) 0).op= .next (.tmp 97) false:=by kernel_rfl
theorem walk_g:(oper (loopOf II 14 24002) 0).guard=none:=by kernel_rfl
theorem cnt_cons (lo hi:Int) (K:Nat→Int) (S:List Nat) (j:Nat): cntIn lo hi K (j::S)=cntIn lo hi K S+(if lo≤K j∧K j≤hi then 1 else 0):=by
 unfold cntIn
 rw [List.filter_cons]
 by_cases h:lo≤K j∧K j≤hi
 ·rw [if_pos h,if_pos (by rw [decide_eq_true h.1,decide_eq_true h.2];rfl)];rfl
 ·rw [if_neg h,if_neg (by simp only [Bool.and_eq_true,decide_eq_true_eq];exact h)];rfl
theorem nodup_len : ∀ (n:Nat) (S:List Nat),S.Nodup→(∀ j,j∈S→j<n)→S.length≤n
 | 0,S,_,h=>by
  cases S with
  | nil=>exact Nat.le_refl _
  | cons a S=>exact absurd (h a List.mem_cons_self) (Nat.not_lt_zero _)
 | n+1,S,hn,h=>by
  by_cases hm:n∈S
  ·have:=nodup_len n (S.erase n) (hn.erase n) fun j hj=>by
    have h1:=(hn.mem_erase_iff).1 hj
    have:=h j h1.2
    have:=h1.1
    omega
   rw [List.length_erase_of_mem hm] at this
   omega
  ·have:=nodup_len n S hn fun j hj=>by
    have:=h j hj
    have:j≠n:=fun e=>hm (e▸hj)
    omega
   omega
theorem walk_loop (x:Fact) (c p:Bool) (s:MSt) (hn:s.n≤6) (hlo : -2≤s.lo∧s.lo≤4398046511104) (hhi : -2≤s.hi∧s.hi≤4398046511104):
  LoopAt PP II false (loopOf II 14 24002) 22 (s14b x c p s.lo s.hi s.n s.K (leftF s) []) (e14b x c p (leftF s (List.range s.n))):=by
 refine LoopAt.walk hII [] (lamT_ok PP II []) 1000 (ι:=List Nat) (ir:=false) walk_c walk_o walk_g 22 (fun S=>S.Nodup∧ ∀ j,j∈S→j<s.n) (s14b x c p s.lo s.hi s.n s.K (leftF s)) (fun _=>e14b x c p (leftF s (List.range s.n))) (fun S=>s.n-S.length) (fun S j=>j::S) [] 21 20 (fun _=>s.n) (fun _=>s.K) (fun S=>S) rfl ⟨List.nodup_nil,fun j h=>by cases h⟩ (fun S _=>⟨rfl,rfl,rfl⟩) ?_ ?_
 ·intro S hS hall
  refine (mat_end x c p s.lo s.hi s.n s.K (leftF s) (leftF s (List.range s.n)) S).mpr ?_
  have hp:S.Perm (List.range s.n):=(List.perm_ext_iff_of_nodup hS.1 List.nodup_range).2 fun a=>⟨fun h=>List.mem_range.2 (hS.2 a h),fun h=>hall a (List.mem_range.1 h)⟩
  have he:leftF s S=leftF s (List.range s.n):=by
   unfold leftF cntIn
   rw [(hp.filter _).length_eq]
  exact EqI.mk rfl (EqI.mk rfl (EqI.mk rfl (EqI.mk rfl (EqI.mk rfl (EqI.mk rfl (EqI.mk rfl (EqI.mk rfl (EqI.mk rfl (EqI.mk rfl ⟨opsRows,EqI.mk he ⟨rfl,rfl,trivial⟩⟩)))))))))
 ·intro S hS j hj hne
  have hlen:S.length≤s.n:=nodup_len _ _ hS.1 hS.2
  have hlen2:(j::S).length≤s.n:=nodup_len _ _ (List.nodup_cons.2 ⟨hne,hS.1⟩) fun a h=>by
   rcases List.mem_cons.1 h with rfl | h
   ·exact hj
   ·exact hS.2 a h
  have hcn:cntIn s.lo s.hi s.K S≤S.length:=List.length_filter_le _ _
  have hJ:((j::S).Nodup∧ ∀ a,a∈j::S→a<s.n)∧s.n-(j::S).length<s.n-S.length∧(e14b x c p (leftF s (List.range s.n))).pick=(e14b x c p (leftF s (List.range s.n))).pick :=
   ⟨⟨List.nodup_cons.2 ⟨hne,hS.1⟩,fun a h=>by
    rcases List.mem_cons.1 h with rfl | h
    ·exact hj
    ·exact hS.2 a h⟩,by simp only [List.length_cons] at hlen2⊢;omega,rfl⟩
  refine (mat_on x c p s.lo s.hi s.n s.K (leftF s) (leftF s (List.range s.n)) S j _).mpr ?_
  have e0:(Nat.beq s.n s.n&&Nat.blt j s.n)=true:=by
   rw [Nat.beq_refl,Bool.true_and]
   exact Nat.ble_eq_true_of_le hj
  have hd:leftF s (j::S)=leftF s S-(if s.lo≤s.K j∧s.K j≤s.hi then 1 else 0):=by
   unfold leftF
   rw [cnt_cons]
   split<;>omega
  refine Asks.mk' _ _ e0 (Cond.mkP (fun h1=>Cond.mkP (fun h2=>?_) fun h2=>?_) fun h1=>?_)
  ·rw [if_pos ⟨h1,h2⟩] at hd
   refine Asks.mk' _ _ (inR_small (by unfold leftF;omega) (by unfold leftF;omega)) ?_
   exact EqN.mk rfl ⟨rfl,EqN.mk rfl ⟨fun _ _=>rfl,EqI.mk rfl (EqI.mk rfl (EqI.mk rfl (EqI.mk rfl (EqI.mk rfl (EqI.mk rfl (EqI.mk rfl (EqI.mk rfl (EqI.mk rfl (EqI.mk rfl ⟨opsRows,EqI.mk hd.symm ⟨rfl,EqI.mk rfl ⟨rfl,EqI.mk rfl hJ⟩⟩⟩)))))))))⟩⟩
  ·rw [if_neg (fun z=>h2 z.2),Int.sub_zero] at hd
   exact EqN.mk rfl ⟨rfl,EqN.mk rfl ⟨fun _ _=>rfl,EqI.mk rfl (EqI.mk rfl (EqI.mk rfl (EqI.mk rfl (EqI.mk rfl (EqI.mk rfl (EqI.mk rfl (EqI.mk rfl (EqI.mk rfl (EqI.mk rfl ⟨opsRows,EqI.mk hd.symm ⟨rfl,EqI.mk rfl ⟨rfl,EqI.mk rfl hJ⟩⟩⟩)))))))))⟩⟩
  ·rw [if_neg (fun z=>h1 z.1),Int.sub_zero] at hd
   exact EqN.mk rfl ⟨rfl,EqN.mk rfl ⟨fun _ _=>rfl,EqI.mk rfl (EqI.mk rfl (EqI.mk rfl (EqI.mk rfl (EqI.mk rfl (EqI.mk rfl (EqI.mk rfl (EqI.mk rfl (EqI.mk rfl (EqI.mk rfl ⟨opsRows,EqI.mk hd.symm ⟨rfl,EqI.mk rfl ⟨rfl,EqI.mk rfl hJ⟩⟩⟩)))))))))⟩⟩
end Go.Sx
end
section
set_option maxRecDepth 1000000
namespace Go.Sx
open Go
theorem HO_get (i:Nat): HO.get i=if i=0 then .cells [.fslice 5 2 opsRow] .ro else .dead:=by
 show AH.get {n:=12,t:=Tr.ofList [(0,_)]} i=_
 simp only [AH.get,Tr.ofList,Tr.get_set,Tr.get_e]
 by_cases h:i=0<;>simp [h]
theorem of_ko {ks:List (Known PP II)} {T:LTab} {f:FuncId} {args:List AV} {a':AV} (hle : ∀ σ,AV.le σ a' a') (h:ko ks T f args (fun a=>a=a')): CallGives PP II f args HO (.ret a' HO):=by
 obtain ⟨o,h1,h2⟩:=kbody_ok hII ks (lamT_ok PP II T) 1000 f args HO _ _ h
 cases o with
 | ret a H1=>
  obtain ⟨x,H2,k1,k2⟩:=frz_ok RI.prop_ok _ _ _ _ h1
  obtain ⟨k0,k1⟩:=Asks.and k1
  have k1:H2.get 0= .cells [.fslice 5 2 opsRow] .ro∧x=a':=k1
  obtain ⟨k3,k1⟩:=k1
  subst k1
  refine (h2.fzRes k2).le (ResLe.of [] (HeapLe.of (by rfl) rfl rfl rfl k0 (allN_iff.2 fun l hl=>?_)) (hle _))
  rw [HO_get]
  by_cases e:l=0
  ·subst e
   rw [if_pos rfl]
   have e2:sig HO.n [] H2.n 0=0:=rfl
   have:=Nat.le_of_ble_eq_true k0
   show if sig HO.n [] H2.n 0<H2.n then ABlk.le (sig HO.n [] H2.n) (H2.get (sig HO.n [] H2.n 0)) (ABlk.cells [.fslice 5 2 opsRow] Access.ro) else _
   rw [e2,if_pos (by omega),k3]
   exact ⟨⟨⟨rfl,rfl,fun i hi=>opsRows i hi _⟩,trivial⟩,trivial⟩
  ·rw [if_neg e];trivial
 | pan a H1=>exact h1.elim
theorem mat_ok {q:Query} {x:Fact} (h1:intsRows 3 q.nw (qRow q.C)=true) (h2:intsRows 1 q.ng (gRow q.G)=true) (hq:qok q=true) (hx:validF x=true):
  CallGives PP II 14 [.agg (queryAV q),.agg (factAV x)] HO (.ret (.tup [.bool (matC q x),.bool (matP q x),.int .i64 0]) HO):=by
 have hv:=hx
 unfold validF at hv
 simp only [Bool.and_eq_true,decide_eq_true_eq] at hv
 obtain ⟨⟨⟨_,hl⟩,hh⟩,_⟩:=hv
 obtain ⟨b1,b2,b3⟩:=mAt_bounds (x:=x) hq ⟨hl.1,by omega⟩ ⟨by omega,hh⟩ q.nw (Nat.le_refl _)
 have hn:=(qok_conds hq).1
 have lp:=mat_loop q x hq
 have wl:=walk_loop x (mEnd q x).c (mEnd q x).c (mEnd q x) (Nat.le_trans b3 hn) b1 b2
 refine of_ko (ks:=[kValidQ,kValid]) (T:=[(7001,21,mS q x 0,mE q x),(24002,22,s14b x (mEnd q x).c (mEnd q x).c (mEnd q x).lo (mEnd q x).hi (mEnd q x).n (mEnd q x).K (leftF (mEnd q x)) [],e14b x (mEnd q x).c (mEnd q x).c (leftF (mEnd q x) (List.range (mEnd q x).n)))]) (fun σ=>⟨rfl,rfl,⟨rfl,rfl⟩,trivial⟩) ?_
 refine (mat_vc q x (fun i=>(mAt q x i.toNat).c) (fun i=>(mAt q x i.toNat).c) (fun i=>(mAt q x i.toNat).lo) (fun i=>(mAt q x i.toNat).hi) (fun i=>(mAt q x i.toNat).n) (fun i=>(mAt q x i.toNat).K) (mEnd q x).c (mEnd q x).c (mEnd q x).lo (mEnd q x).hi (mEnd q x).n (mEnd q x).K (leftF (mEnd q x)) (leftF (mEnd q x) (List.range (mEnd q x).n)) _).mpr ?_
 have b1 : -2≤(mEnd q x).lo∧(mEnd q x).lo≤4398046511104:=b1
 have b2 : -2≤(mEnd q x).hi∧(mEnd q x).hi≤4398046511104:=b2
 have hz:leftF (mEnd q x) []=(mEnd q x).hi-(mEnd q x).lo+1:=by
  unfold leftF
  show _-((0:Nat): Int)=_
  omega
 refine Asks.mk' _ _ (by rw [h1,h2];rfl) (Asks.mk' _ _ ((qok_back q).trans hq) ?_)
 rw [hx]
 refine ⟨lp,EqN.mk rfl (EqI.mk rfl (EqI.mk rfl (EqI.mk rfl (EqI.mk rfl (EqI.mk rfl (EqI.mk rfl (EqI.mk rfl (EqI.mk rfl (EqI.mk rfl (EqI.mk rfl (EqN.mk rfl ⟨qRows _ _,EqN.mk rfl ⟨gRows _ _,EqI.mk rfl (EqI.mk rfl (EqB.mk rfl (EqB.mk rfl (EqI.mk rfl ⟨opsRows,EqN.mk rfl ⟨qRows _ _,rfl,EqI.mk rfl (EqI.mk rfl ⟨rfl,EqI.mk rfl ?_⟩)⟩⟩))))⟩⟩)))))))))))⟩
 refine Asks.mk' _ _ (inR_small (by omega) (by omega)) (Asks.mk' _ _ (inR_small (by omega) (by omega)) ⟨wl,EqN.mk rfl ⟨rfl,EqN.mk rfl ⟨fun _ _=>rfl,EqI.mk rfl (EqI.mk rfl (EqI.mk rfl (EqI.mk rfl (EqI.mk rfl (EqI.mk rfl (EqI.mk rfl (EqI.mk rfl (EqI.mk rfl (EqI.mk rfl ⟨opsRows,EqI.mk hz.symm ⟨rfl,EqI.mk rfl ⟨rfl,EqI.mk rfl ?_⟩⟩⟩)))))))))⟩⟩⟩)
 unfold matC matP matLeft
 have r1:inR .i64 (x.h-x.l)=true:=inR_small (by omega) (by omega)
 have r2:inR .i64 (x.h-x.l+1)=true:=inR_small (by omega) (by omega)
 cases hc:(mEnd q x).c with
 | true=>exact Asks.mk' _ _ r1 (Asks.mk' _ _ r2 ⟨rfl,rfl⟩)
 | false=>exact ⟨rfl,rfl⟩
end Go.Sx
end
section
set_option maxRecDepth 1000000
namespace Go.Sx
open Go
theorem Rel.same {c:Ctx} {ρ:Env} {H H':AH} {w:World} (h:Rel c ρ H w) (hn:H'.n=H.n) (hb : ∀ l,BlkRel ρ w (ρ l) (H.get l)→BlkRel ρ w (ρ l) (H'.get l)) (hrw : ∀ l,(H'.get l).rw=(H.get l).rw) (hd : ∀ l,H'.get l= .dead↔H.get l= .dead): Rel c ρ H' w where
 blk l:=hb l (h.blk l)
 sep l l' r N N' hne hrw' h1 h2:=(hd l').2 (h.sep l l' r N N' hne (by rw [←hrw l];exact hrw') h1 h2)
 prot l r N hrw' h1:=h.prot l r N (by rw [←hrw l];exact hrw') h1
 keep:=h.keep
 size:=h.size
 os:=h.os
 output:=h.output
 tape:=h.tape
 top l hl:=h.top l (by omega)
 glob:=h.glob
 hid l r N hdd h1:=h.hid l r N (fun e=>hdd ((hd l).2 e)) h1
 env l hl:=by rw [hn];exact h.env l hl
 low l hl:=(hd l).2 (h.low l (by omega))
 fro:=h.fro
 frw l r N hrw' h1:=h.frw l r N (by rw [←hrw l];exact hrw') h1
 frx:=h.frx
 frk:=h.frk
def isOpRow (cs:List AV) (i:Nat): Bool:=match i,cs with
 | 0,[.str [],.nilFn]=>true
 | 1,[.str [61],.fn 313 [] []]=>true
 | 2,[.str [33,61],.fn 314 [] []]=>true
 | 3,[.str [60],.fn 315 [] []]=>true
 | 4,[.str [62,61],.fn 316 [] []]=>true
 | _,_=>false
def opsOk (b:ABlk): Bool:=match b with
 | .cells [.fslice 5 2 f] .ro=>isOpRow (f 0) 0&&isOpRow (f 1) 1&&isOpRow (f 2) 2&&isOpRow (f 3) 3&&isOpRow (f 4) 4
 | _=>false
theorem isOpRow_ok {cs:List AV} {i:Nat} (h:isOpRow cs i=true): cs=opsRow i:=by
 unfold isOpRow at h
 split at h<;>first | rfl | cases h
theorem opsOk_ok {b:ABlk} (h:opsOk b=true): ∃ f,b= .cells [.fslice 5 2 f] .ro∧ ∀ i,i<5→f i=opsRow i:=by
 unfold opsOk at h
 split at h
 ·rename_i f
  simp only [Bool.and_eq_true] at h
  obtain ⟨⟨⟨⟨h0,h1⟩,h2⟩,h3⟩,h4⟩:=h
  refine ⟨f,rfl,fun i hi=>?_⟩
  match i,hi with
  | 0,_=>exact isOpRow_ok h0
  | 1,_=>exact isOpRow_ok h1
  | 2,_=>exact isOpRow_ok h2
  | 3,_=>exact isOpRow_ok h3
  | 4,_=>exact isOpRow_ok h4
  | i+5,h=>exact absurd h (by omega)
 ·cases h
theorem fops {f g:Nat→List AV} (h : ∀ i,i<5→f i=opsRow i) (k : ∀ i,i<5→g i=opsRow i) {ρ:Env} {w:World} {o:Option (Nat×Nat)} (hb:BlkRel ρ w o (.cells [.fslice 5 2 f] .ro)): BlkRel ρ w o (.cells [.fslice 5 2 g] .ro):=by
 have:ABlk.le (fun l=>l) (.cells [.fslice 5 2 f] .ro) (.cells [.fslice 5 2 g] .ro):=by
  refine ⟨⟨⟨rfl,rfl,fun i hi=>?_⟩,trivial⟩,trivial⟩
  rw [h i hi,k i hi]
  exact opsRows i hi _
 exact BlkRel.le this hb
theorem CallGives.onHO {f:FuncId} {args:List AV} {a:AV} {H:AH} (h:CallGives PP II f args HO (.ret a HO)) (hb:opsOk (H.get 0)=true) (hargs : ∀ σ,AVs.ren σ args=args) (ha : ∀ σ,a.ren σ=a): CallGives PP II f args H (.ret a H):=by
 obtain ⟨g,hg,hf⟩:=opsOk_ok hb
 have h1:CallGives PP II f args (H.set 0 (.cells [.fslice 5 2 opsRow] .ro)) (.ret a (H.set 0 (.cells [.fslice 5 2 opsRow] .ro))):=by
  refine CallGives.pureG (I:=II) (H0:=HO) h rfl (fun i hi=>?_) (fun i hi hd=>?_) hargs ha
  ·have hi:12≤i:=hi
   rw [HO_get,if_neg (by omega)]
  ·by_cases e:i=0
   ·subst e
    rw [AH.get_set_same,HO_get,if_pos rfl]
    exact ⟨rfl,fun σ=>rfl⟩
   ·rw [HO_get,if_neg e] at hd;exact absurd rfl hd
 have fwd : ∀ c ρ w,Rel c ρ H w→Rel c ρ (H.set 0 (.cells [.fslice 5 2 opsRow] .ro)) w:=fun c ρ w hr=>by
  refine hr.same rfl (fun l hl=>?_) (fun l=>?_) fun l=>?_
  ·by_cases e:l=0
   ·subst e
    rw [AH.get_set_same]
    rw [hg] at hl
    exact fops hf (fun _ _=>rfl) hl
   ·rw [AH.get_set_ne _ _ (fun z=>e z.symm)];exact hl
  ·by_cases e:l=0
   ·subst e;rw [AH.get_set_same,hg];rfl
   ·rw [AH.get_set_ne _ _ (fun z=>e z.symm)]
  ·by_cases e:l=0
   ·subst e;rw [AH.get_set_same,hg];exact ⟨(fun z=>by cases z),(fun z=>by cases z)⟩
   ·rw [AH.get_set_ne _ _ (fun z=>e z.symm)]
 have back : ∀ c ρ w,Rel c ρ (H.set 0 (.cells [.fslice 5 2 opsRow] .ro)) w→Rel c ρ H w:=fun c ρ w hr=>by
  refine hr.same rfl (fun l hl=>?_) (fun l=>?_) fun l=>?_
  ·by_cases e:l=0
   ·subst e
    rw [AH.get_set_same] at hl
    rw [hg]
    exact fops (fun _ _=>rfl) hf hl
   ·rw [AH.get_set_ne _ _ (fun z=>e z.symm)] at hl;exact hl
  ·by_cases e:l=0
   ·subst e;rw [AH.get_set_same,hg];rfl
   ·rw [AH.get_set_ne _ _ (fun z=>e z.symm)]
  ·by_cases e:l=0
   ·subst e;rw [AH.get_set_same,hg];exact ⟨(fun z=>by cases z),(fun z=>by cases z)⟩
   ·rw [AH.get_set_ne _ _ (fun z=>e z.symm)]
 intro c ρ w vs hG hv hr
 have post : ∀ e w',(CO.ret a (H.set 0 (.cells [.fslice 5 2 opsRow] .ro))).post c ρ e w'→(CO.ret a H).post c ρ e w':=by
  intro e w' hp
  cases e with
  | returned v=>
   obtain ⟨ρ',hx,hr1,hv1⟩:=hp
   exact ⟨ρ',hx,back _ _ _ hr1,hv1⟩
  | panicked ch=>exact hp.elim
  | outgrown=>exact hp.elim
 rcases h1 c ρ w vs hG hv (fwd _ _ _ hr) with ⟨h1,h2⟩ | ⟨v,w',h1,h2⟩
 ·exact .inl ⟨h1,h2.mono post⟩
 ·exact .inr ⟨v,w',h1,post _ _ h2⟩
noncomputable def kMat:Known PP II where
 f:=14
 spec X args H kn _:=frzs X 100000 args H fun args' H'=>X.assert (opsOk (H'.get 0)) (match args' with
  | [.agg [.fslice nw 3 f,.fslice ng 1 g,.int .i64 a,.int .i64 fl,.str nu,.str de,.int .i64 top],.agg cs]=>X.assert (intsRows 3 nw f&&intsRows 1 ng g) (X.assert (qok ⟨nw,rowsX f,ng,fun j=>getI (g j) 0,a,fl,nu,de,top⟩) (match toFact cs with
   | some x=>X.assert (validF x) (kn (.tup [.bool (matC ⟨nw,rowsX f,ng,fun j=>getI (g j) 0,a,fl,nu,de,top⟩ x),.bool (matP ⟨nw,rowsX f,ng,fun j=>getI (g j) 0,a,fl,nu,de,top⟩ x),.int .i64 0]) H')
   | none=>X.fail))
  | _=>X.fail)
 ok X sem hX args H kn kp h:=by
  obtain ⟨args',H',h1,h2⟩:=frzs_ok hX _ _ _ _ h
  obtain ⟨h0,h1⟩:=hX.assert _ _ h1
  split at h1
  ·rename_i nw f ng g a fl nu de top cs h2
   obtain ⟨k1,k2⟩:=hX.assert _ _ h1
   obtain ⟨k3,k4⟩:=hX.assert _ _ k2
   split at k4
   ·rename_i x hx
    obtain ⟨k5,k6⟩:=hX.assert _ _ k4
    have e:=toFact_ok hx
    subst e
    simp only [Bool.and_eq_true] at k1
    have k7:=(mat_ok (q:=⟨nw,rowsX f,ng,fun j=>getI (g j) 0,a,fl,nu,de,top⟩) (x:=x) (qRow_ints k1.1) (gRow_ints k1.2) k3 k5).argsLe (args:=[.agg [.fslice nw 3 f,.fslice ng 1 g,.int .i64 a,.int .i64 fl,.str nu,.str de,.int .i64 top],.agg (factAV x)]) ⟨query_args k1.1 k1.2,⟨⟨rfl,rfl⟩,⟨rfl,rfl⟩,⟨rfl,rfl⟩,⟨rfl,rfl⟩,⟨rfl,rfl⟩,⟨rfl,rfl⟩,⟨rfl,rfl⟩,⟨rfl,rfl⟩,⟨rfl,rfl⟩,⟨rfl,rfl⟩,trivial⟩,trivial⟩
    exact ⟨.ret _ H',k6,(k7.onHO h0 (fun _=>rfl) fun _=>rfl).fzArgs h2⟩
   ·exact absurd k4 hX.fail
  ·exact absurd h1 hX.fail
end Go.Sx
end
