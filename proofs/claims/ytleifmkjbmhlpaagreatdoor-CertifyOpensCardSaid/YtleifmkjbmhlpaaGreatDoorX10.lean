/- CertifyOpens is proved, part 10. -/
import Derived.Test.YtleifmkjbmhlpaaGreatDoorX09
set_option linter.unusedVariables false
set_option linter.unusedSimpArgs false
set_option linter.unusedSectionVars false
section
namespace Go.Sx
open Go
structure Known (P:Program) (I:Info) where
 f:FuncId
 spec:{R:Type}→RI R→Spec R
 ok : ∀ {R:Type} (X:RI R) (sem:R→Prop),X.Ok sem→ ∀ args H kn kp,sem (spec X args H kn kp)→ ∃ o:CO,o.sem sem kn kp∧CallGives P I f args H o
def known {P:Program} {I:Info} {R:Type} (X:RI R): List (Known P I)→FuncId→Option (Spec R)
 | [],_=>none
 | k::ks,f=>bif Nat.beq f k.f then some (k.spec X) else known X ks f
theorem known_ok {P:Program} {I:Info} {R:Type} {X:RI R} {sem:R→Prop} (hX:X.Ok sem): ∀ ks:List (Known P I),SpecsOk P I sem (known X ks)
 | [],f,s,h=>by cases h
 | k::ks,f,s,h=>by
  intro args H kn kp hs
  unfold known at h
  cases e:Nat.beq f k.f with
  | true=>
   rw [e,cond_true,Option.some.injEq] at h
   subst h
   rw [Nat.eq_of_beq_eq_true e]
   exact k.ok X sem hX args H kn kp hs
  | false=>
   rw [e,cond_false] at h
   exact known_ok hX ks f s h args H kn kp hs
theorem CallGives.pure {P:Program} {I:Info} {f:FuncId} {args:List AV} {a:AV} (h:CallGives P I f args (AH.blank I.G) (.ret a (AH.blank I.G))) (hargs : ∀ σ,AVs.ren σ args=args) (ha : ∀ σ,a.ren σ=a) (H:AH):
  CallGives P I f args H (.ret a H):=by
 intro c ρ w vs hG hv hr
 have hGn:I.G≤H.n:=by
  rw [←hG]
  refine Nat.le_of_not_lt fun hlt=>?_
  obtain ⟨N,hN⟩:=hr.glob H.n hlt
  rw [hr.top _ (Nat.le_refl _)] at hN;cases hN
 have hd : ∀ l,(AH.blank I.G).get l= .dead:=fun l=>rfl
 let σ:Nat→Nat:=fun l=>if l<I.G then l else H.n+(l-I.G)
 have hs:Sub I.G σ (AH.blank I.G) H :=
  {lt:=fun l hl=>by
    have:l<I.G:=hl
    simp only [σ,if_pos this];omega
   ge:=fun l hl=>by
    have : ¬ l<I.G:=Nat.not_lt.2 hl
    simp only [σ,if_neg this];rfl
   same:=fun l h=>absurd (hd l) h
   inj:=fun l _ h=>absurd (hd l) h
   glob:=fun g hg=>⟨hg,by simp only [σ,if_pos hg]⟩
   low:=fun l _=>hd l}
 have ht:Sup σ (AH.blank I.G) (CO.ret a (AH.blank I.G)).heap H H :=
  {n:=by show H.n=H.n+(I.G-I.G);omega
   old:=fun l h=>absurd (hd l) h
   new:=fun l hl=>by
    have : ¬ l<I.G:=Nat.not_lt.2 hl
    simp only [σ,if_neg this]
    rw [hr.low _ (by omega)]
    show _=(ABlk.dead).ren _
    rfl
   rest:=fun _ _ _=>rfl}
 have:=h.lift hs ht
 rw [hargs] at this
 have e:(CO.ret a (AH.blank I.G)).into σ H= .ret a H:=by
  show CO.ret (a.ren σ) H=_
  rw [ha]
 rw [e] at this
 exact this c ρ w vs hG hv hr
def krun {P:Program} {I:Info} (ks:List (Known P I)) (Λ:Loops Prop) (fuel:Nat): Runner Prop:=run RI.prop I (known RI.prop ks) Λ (drawn3 RI.prop I bigN [54,55]) fuel
theorem krun_ok {P:Program} {I:Info} (hI:I.Ok P) (ks:List (Known P I)) {Λ:Loops Prop} (hΛ:LoopsOk P I id Λ) (fuel:Nat): RunOk P I id (krun ks Λ fuel):=
 run_ok RI.prop_ok hI (known_ok RI.prop_ok ks) hΛ (drawn3_ok RI.prop_ok hI bigN [54,55]) fuel
def kbody {P:Program} {I:Info} (ks:List (Known P I)) (Λ:Loops Prop) (fuel:Nat): Caller Prop:=callOf RI.prop I (fun _=>none) (krun ks Λ fuel)
theorem kbody_ok {P:Program} {I:Info} (hI:I.Ok P) (ks:List (Known P I)) {Λ:Loops Prop} (hΛ:LoopsOk P I id Λ) (fuel:Nat): CallerOk P I id (kbody ks Λ fuel):=
 callOf_ok RI.prop_ok hI (fun _ _ h=>by cases h) (krun_ok hI ks hΛ fuel)
end Go.Sx
end
section
namespace Go.Sx
open Go
def ABlk.froz:ABlk→ABlk
 | .cells cs _=> .cells cs .ro
 | .rows n e f _=> .rows n e f .ro
 | .str s _=> .str s .ro
 | b=>b
def ABlk.isRow:ABlk→Bool
 | .cells _ _=>true
 | .rows _ _ _ _=>true
 | .str _ _=>true
 | _=>false
theorem CellsRel.froz {ρ:Env} {w:World} {o:Option (Nat×Nat)} {cs:List AV} {a:Access} (h:CellsRel ρ w o cs a) (hf : ∀ r N vs,o=some (r,N)→(∃ el fr,w.heap[r]? =some (.cells vs.toArray el fr))→ρ.fz r=some vs): CellsRel ρ w o cs .ro:=by
 rcases h with h | ⟨b,N,vs,rest,el,fr,h1,h2,h3,h4,h5,h6,h7⟩
 ·exact .inl h
 ·exact .inr ⟨b,N,vs,rest,el,fr,h1,h2,h3,h4,⟨(fun e=>by cases e),(fun _ e=>by cases e)⟩,h6,fun _=>hf b N _ h1 ⟨el,fr,h2⟩⟩
theorem Rel.freeze {c:Ctx} {ρ:Env} {H:AH} {w:World} (h:Rel c ρ H w) {l:Nat} (hrow:(H.get l).isRow=true) (hrw:(H.get l).rw=true):
  ∃ ρ',Ext ρ ρ'∧ρ'.pl=ρ.pl∧Rel c ρ' (H.set l (H.get l).froz) w:=by
 have hget : ∀ i,i≠l→(H.set l (H.get l).froz).get i=H.get i:=fun i e=>AH.get_set_ne _ _ (fun e'=>e e'.symm)
 have hro:(H.get l).froz.rw=false:=by
  cases hb:H.get l<;>rw [hb] at hrow<;>first | rfl | cases hrow
 have hlive:H.get l≠ .dead:=fun e=>by rw [e] at hrw;cases hrw
 have hln:=h.belowRw hrw
 have main : ∀ ρ':Env,ρ'.pl=ρ.pl→Ext ρ ρ'→BlkRel ρ' w (ρ l) (H.get l).froz→(∀ b vs,ρ'.fz b=some vs→ ∃ el fr,w.heap[b]? =some (.cells vs.toArray el fr))→
   (∀ b,ρ'.fz b≠ρ.fz b→ ∃ N,ρ l=some (b,N))→Rel c ρ' (H.set l (H.get l).froz) w:=by
  intro ρ' hpl hx hb hfro hch
  refine ⟨fun i=>?_,fun i i' r N N' hne hrw' h1 h2=>?_,fun i r N hrw' h1=>?_,h.keep,h.size,h.os,h.output,h.tape,fun i hi=>?_,fun g hg=>?_,fun i r N hd h1=>?_,fun i hi=>?_,fun i hi=>?_,hfro,fun i r N hrw' h1=>?_,fun b hb=>?_,fun b vs e=>hx.fz b vs (h.frk b vs e)⟩
  ·by_cases e:i=l
   ·subst e;rw [AH.get_set_same,hpl];exact hb
   ·rw [hget i e,hpl];exact (h.blk i).ext hx
  ·have e:i≠l:=fun e=>by subst e;rw [AH.get_set_same,hro] at hrw';cases hrw'
   rw [hget i e] at hrw'
   rw [hpl] at h1 h2
   have hd:=h.sep i i' r N N' hne hrw' h1 h2
   by_cases e':i'=l
   ·subst e';exact absurd hd hlive
   ·rw [hget i' e'];exact hd
  ·have e:i≠l:=fun e=>by subst e;rw [AH.get_set_same,hro] at hrw';cases hrw'
   rw [hget i e] at hrw'
   rw [hpl] at h1
   exact h.prot i r N hrw' h1
  ·rw [hpl];exact h.top i hi
  ·rw [hpl];exact h.glob g hg
  ·rw [hpl] at h1
   by_cases e:i=l
   ·subst e;exact h.hid i r N hlive h1
   ·rw [hget i e] at hd;exact h.hid i r N hd h1
  ·rw [hpl];exact h.env i hi
  ·rw [hget i (by simp at hi;omega)];exact h.low i hi
  ·have e:i≠l:=fun e=>by subst e;rw [AH.get_set_same,hro] at hrw';cases hrw'
   rw [hget i e] at hrw'
   rw [hpl] at h1
   apply Classical.byContradiction
   intro hne
   have hold:=h.frw i r N hrw' h1
   obtain ⟨N',h2⟩:=hch r (by rw [hold];exact hne)
   exact hlive (h.sep i l r N N' e hrw' h1 h2)
  ·apply Classical.byContradiction
   intro hne
   have hold:=h.frx b hb
   obtain ⟨N',h2⟩:=hch b (by rw [hold];exact hne)
   exact h.hid l b N' hlive h2 hb
 cases ho:ρ l with
 | none=>
  refine ⟨ρ,Ext.refl ρ,rfl,main ρ rfl (Ext.refl ρ) ?_ h.fro fun b hb=>absurd rfl hb⟩
  have:=h.blk l
  rw [ho] at this⊢
  cases hb:H.get l with
  | cells cs a=>rw [hb] at this;exact CellsRel.froz this fun _ _ _ e=>by cases e
  | rows n e f a=>rw [hb] at this;exact ⟨this.1,CellsRel.froz this.2 fun _ _ _ e=>by cases e⟩
  | str s a=>rw [hb] at this;exact CellsRel.froz (cs:=byteCells s) this fun _ _ _ e=>by cases e
  | _=>rw [hb] at hrow;cases hrow
 | some x=>
  obtain ⟨r,N⟩:=x
  have hfr:=h.frw l r N hrw ho
  have hblk:=h.blk l
  rw [ho] at hblk
  have hcell : ∃ vs el fr,w.heap[r]? =some (.cells (List.toArray vs) el fr):=by
   cases hb:H.get l with
   | cells cs a=>
    rw [hb] at hblk
    rcases hblk with ⟨_,h0⟩ | ⟨b,N',vs,rest,el,fr,h1,h2,_⟩
    ·cases h0
    ·cases h1;exact ⟨_,_,_,h2⟩
   | rows n e f a=>
    rw [hb] at hblk
    rcases hblk.2 with ⟨_,h0⟩ | ⟨b,N',vs,rest,el,fr,h1,h2,_⟩
    ·cases h0
    ·cases h1;exact ⟨_,_,_,h2⟩
   | str s a=>
    rw [hb] at hblk
    rcases (hblk:CellsRel _ _ _ _ _) with ⟨_,h0⟩ | ⟨b,N',vs,rest,el,fr,h1,h2,_⟩
    ·cases h0
    ·cases h1;exact ⟨_,_,_,h2⟩
   | _=>rw [hb] at hrow;cases hrow
  obtain ⟨vs0,el0,fr0,hvs0⟩:=hcell
  let ρ':Env:=⟨ρ.pl,fun b=>if b=r then some vs0 else ρ.fz b⟩
  have hfz:ρ'.fz r=some vs0:=by show (if r=r then some vs0 else _)=_;rw [if_pos rfl]
  have hfz2 : ∀ b,b≠r→ρ'.fz b=ρ.fz b:=fun b e=>by show (if b=r then some vs0 else _)=_;rw [if_neg e]
  have hx:Ext ρ ρ':=⟨fun _ _ e=>e,fun b vs e=>by
   by_cases hb:b=r
   ·subst hb;rw [hfr] at e;cases e
   ·rw [hfz2 b hb];exact e⟩
  refine ⟨ρ',hx,rfl,main ρ' rfl hx ?_ ?_ ?_⟩
  ·have hf : ∀ r' N' (vs:List Value),some (r,N)=some (r',N')→(∃ el fr,w.heap[r']? =some (.cells vs.toArray el fr))→ρ'.fz r'=some vs:=by
    intro r' N' vs e hh
    cases e
    obtain ⟨el,fr,e2⟩:=hh
    rw [hvs0] at e2
    cases e2
    exact hfz
   rw [ho]
   cases hb:H.get l with
   | cells cs a=>rw [hb] at hblk;exact CellsRel.froz (CellsRel.ext hx hblk) hf
   | rows n e f a=>rw [hb] at hblk;exact ⟨hblk.1,CellsRel.froz (CellsRel.ext hx hblk.2) hf⟩
   | str s a=>rw [hb] at hblk;exact CellsRel.froz (cs:=byteCells s) (CellsRel.ext hx hblk) hf
   | _=>rw [hb] at hrow;cases hrow
  ·intro b vs e
   by_cases hb:b=r
   ·subst hb;rw [hfz] at e;cases e;exact ⟨_,_,hvs0⟩
   ·rw [hfz2 b hb] at e;exact h.fro b vs e
  ·intro b hb
   by_cases e:b=r
   ·subst e;exact ⟨N,ho⟩
   ·exact absurd (hfz2 b e) hb
mutual
def AV.free:AV→Bool
 | .ptr _ _ _ _=>false
 | .slice _ _ _ _ _ _=>false
 | .own _ _ _=>false
 | .map (some _)=>false
 | .yield _=>false
 | .fn _ a b=>AVs.free a&&AVs.free b
 | .iface _ a=>a.free
 | .agg cs=>AVs.free cs
 | .tup cs=>AVs.free cs
 | _=>true
def AVs.free:List AV→Bool
 | []=>true
 | a::as=>a.free&&AVs.free as
end
mutual
theorem VR.free {ρ:Env}: ∀ (a:AV) (v:Value),a.free=true→VR ρ a v→VR ρ.bare a v
 | .ptr _ _ _ _,_,h,_=>by cases h
 | .slice _ _ _ _ _ _,_,h,_=>by cases h
 | .own _ _ _,_,h,_=>by cases h
 | .map (some _),_,h,_=>by cases h
 | .yield _,_,h,_=>by cases h
 | .fn f a b,v,h,k=>by
  simp only [AV.free,Bool.and_eq_true] at h
  simp only [VR] at k⊢
  obtain ⟨us,vs,e,r,s⟩:=k
  exact ⟨us,vs,e,VRs.free a us h.1 r,VRs.free b vs h.2 s⟩
 | .iface t a,v,h,k=>by
  simp only [AV.free] at h
  simp only [VR] at k⊢
  obtain ⟨u,e,r⟩:=k
  exact ⟨u,e,VR.free a u h r⟩
 | .agg cs,v,h,k=>by
  simp only [AV.free] at h
  simp only [VR] at k⊢
  obtain ⟨vs,e,r⟩:=k
  exact ⟨vs,e,VRs.free cs vs h r⟩
 | .tup cs,v,h,k=>by
  simp only [AV.free] at h
  simp only [VR] at k⊢
  obtain ⟨vs,e,r⟩:=k
  exact ⟨vs,e,VRs.free cs vs h r⟩
 | .fptr cs j,v,_,hk=>by
  simp only [VR] at hk⊢
  exact hk
 | .fslice len e f,v,_,hk=>by
  simp only [VR] at hk⊢
  exact hk
 | .bool _,_,_,k=>by simpa only [VR] using k
 | .int _ _,_,_,k=>by simpa only [VR] using k
 | .str _,_,_,k=>by simpa only [VR] using k
 | .nilPtr,_,_,k=>by simpa only [VR] using k
 | .nilSlice,_,_,k=>by simpa only [VR] using k
 | .map none,_,_,k=>by simpa only [VR] using k
 | .nilFn,_,_,k=>by simpa only [VR] using k
 | .nilIface,_,_,k=>by simpa only [VR] using k
 | .any,_,_,k=>by simp only [VR]
theorem VRs.free {ρ:Env}: ∀ (as:List AV) (vs:List Value),AVs.free as=true→VRs ρ as vs→VRs ρ.bare as vs
 | [],_,_,k=>by simpa only [VRs] using k
 | a::as,vs,h,k=>by
  simp only [AVs.free,Bool.and_eq_true] at h
  simp only [VRs] at k⊢
  obtain ⟨u,us,e,r,s⟩:=k
  exact ⟨u,us,e,VR.free a u h.1 r,VRs.free as us h.2 s⟩
end
def frzL (H:AH) (l:Nat): Option AH :=
 match H.get l with
 | .cells _ .ro=>some H
 | .rows _ _ _ .ro=>some H
 | .str _ .ro=>some H
 | .cells cs _=>some (H.set l (.cells cs .ro))
 | .rows n e f _=>some (H.set l (.rows n e f .ro))
 | .str s _=>some (H.set l (.str s .ro))
 | _=>none
theorem frzL_ok {H H':AH} {l:Nat} (h:frzL H l=some H') {c:Ctx} {ρ:Env} {w:World} (hr:Rel c ρ H w): (H'.get l=(H.get l).froz)∧((H.get l).isRow=true)∧H'.n=H.n∧ ∃ ρ',Ext ρ ρ'∧ρ'.pl=ρ.pl∧Rel c ρ' H' w:=by
 have key : ∀ b,(H.get l).isRow=true→(H.get l).rw=true→b=(H.get l).froz→H'=H.set l b→(H'.get l=(H.get l).froz)∧((H.get l).isRow=true)∧H'.n=H.n∧ ∃ ρ',Ext ρ ρ'∧ρ'.pl=ρ.pl∧Rel c ρ' H' w:=by
  intro b h1 h2 h3 h4
  subst h3 h4
  obtain ⟨ρ',e1,e2,e3⟩:=hr.freeze h1 h2
  exact ⟨AH.get_set_same _ _ _,h1,rfl,ρ',e1,e2,e3⟩
 unfold frzL at h
 split at h
 ·rename_i cs hb;cases h;rw [hb];exact ⟨rfl,rfl,rfl,ρ,Ext.refl ρ,rfl,hr⟩
 ·rename_i n e f hb;cases h;rw [hb];exact ⟨rfl,rfl,rfl,ρ,Ext.refl ρ,rfl,hr⟩
 ·rename_i s hb;cases h;rw [hb];exact ⟨rfl,rfl,rfl,ρ,Ext.refl ρ,rfl,hr⟩
 ·rename_i cs a hne hb
  cases h
  refine key _ (by rw [hb];rfl) ?_ (by rw [hb];rfl) rfl
  rw [hb]
  cases a with
  | ro=>exact absurd rfl hne
  | _=>rfl
 ·rename_i n e f a hne hb
  cases h
  refine key _ (by rw [hb];rfl) ?_ (by rw [hb];rfl) rfl
  rw [hb]
  cases a with
  | ro=>exact absurd rfl hne
  | _=>rfl
 ·rename_i s a hne hb
  cases h
  refine key _ (by rw [hb];rfl) ?_ (by rw [hb];rfl) rfl
  rw [hb]
  cases a with
  | ro=>exact absurd rfl hne
  | _=>rfl
 ·cases h
theorem CellsRel.some_vs {ρ:Env} {w:World} {o:Option (Nat×Nat)} {cs:List AV} {a:Access} (h:CellsRel ρ w o cs a): ∃ vs,VRs ρ cs vs:=by
 rcases h with ⟨rfl,_⟩ | ⟨b,N,vs,rest,el,fr,h1,h2,h3,h4,_⟩
 ·exact ⟨[],by simp [VRs]⟩
 ·exact ⟨vs,h4⟩
theorem CellsRel.fz {ρ:Env} {w:World} {b N:Nat} {cs:List AV} (h:CellsRel ρ w (some (b,N)) cs .ro): ∃ vs rest,VRs ρ cs vs∧(∀ v∈vs,v.oneCell'=true)∧ρ.fz b=some (vs++rest):=by
 rcases h with ⟨_,h⟩ | ⟨b,N,vs,rest,el,fr,h1,h2,h3,h4,h5,h6,h7⟩
 ·cases h
 ·cases h1;exact ⟨vs,rest,h4,h6,h7 rfl⟩
theorem flat_cut {α:Type} {l:List α} {o e:Nat}: ∀ {n:Nat},o+n*e≤l.length→(List.range n).flatMap (fun i=>(l.drop (o+i*e)).take e)=(l.drop o).take (n*e)
 | 0,_=>by simp
 | n+1,h=>by
  rw [Nat.succ_mul] at h
  rw [List.range_succ,List.flatMap_append,flat_cut (n:=n) (by omega),Nat.succ_mul,List.take_add,List.drop_drop]
  simp
theorem FzC.sub {ρ:Env} {b:Nat} {vs rest:List Value} (h:ρ.fz b=some (vs++rest)) (h1 : ∀ v∈vs,v.oneCell'=true) (o m:Nat) (hl:o≤vs.length): FzC ρ b o ((vs.drop o).take m):=by
 refine ⟨fun v hv=>h1 v (List.mem_of_mem_drop (List.mem_of_mem_take hv)),vs.take o,(vs.drop o).drop m++rest,by simp;omega,?_⟩
 rw [h,List.append_assoc,←List.append_assoc ((vs.drop o).take m),List.take_append_drop,←List.append_assoc,List.take_append_drop]
theorem FzC.all {ρ:Env} {b:Nat} {vs rest:List Value} (h:ρ.fz b=some (vs++rest)) (h1 : ∀ v∈vs,v.oneCell'=true): FzC ρ b 0 vs:=⟨h1,[],rest,rfl,by simpa using h⟩
theorem FzC.rows {ρ:Env} {b:Nat} {vs rest:List Value} (h:ρ.fz b=some (vs++rest)) (h1 : ∀ v∈vs,v.oneCell'=true) {o e len:Nat} (hl:o+len*e≤vs.length):
  FzC ρ b o ((List.range len).flatMap fun i=>(vs.drop (o+i*e)).take e)∧ ∀ i,i<len→((vs.drop (o+i*e)).take e).length=e:=by
 refine ⟨by rw [flat_cut hl];exact FzC.sub h h1 o _ (by omega),fun i hi=>?_⟩
 have:i*e+e≤len*e:=by
  have:=Nat.mul_le_mul_right e (show i+1≤len by omega)
  rwa [Nat.succ_mul] at this
 simp;omega
theorem CellsRel.fzRows {ρ:Env} {w:World} {b N n e:Nat} {f:Nat→List AV} (h0 : ∀ i,i<n→(f i).length=e) (h:CellsRel ρ w (some (b,N)) (rowsOf n f) .ro) (hfree : ∀ i,i<n→AVs.free (f i)=true):
  ∃ vss,FzC ρ b 0 ((List.range n).flatMap vss)∧ ∀ i,i<n→(vss i).length=e∧VRs ρ.bare (f i) (vss i):=by
 obtain ⟨vs,rest,h1,h2,h3⟩:=h.fz
 have hl:vs.length=n*e:=by rw [←h1.length_eq];exact rowsOf_length h0
 obtain ⟨k1,k2⟩:=FzC.rows h3 h2 (o:=0) (e:=e) (len:=n) (by omega)
 refine ⟨_,k1,fun i hi=>⟨k2 i hi,VRs.free _ _ (hfree i hi) ?_⟩⟩
 obtain ⟨t,ht⟩:=rowsOf_drop h0 hi
 have:=(h1.drop (i*e)).take e
 rw [ht,List.take_append_of_le_length (by rw [h0 i hi];omega),List.take_of_length_le (by rw [h0 i hi];omega)] at this
 simpa using this
section
variable {R:Type} (X:RI R)
mutual
def frz:Nat→AV→AH→(AV→AH→R)→R
 | 0,_,_,_=>X.fail
 | d+1,a,H,K=>match a with
  | .ptr l k e j=>match frzL H l with
   | some H1=>match H1.get l with
    | .cells cs _=>frzs d cs H1 fun cs' H2=>K (.fptr cs' (k*e+j)) H2
    | .rows n e' f _=>X.assert (((List.range n).all fun i=>AVs.free (f i))&&decide (k<n)) (if e=e' then K (.fptr (f k) j) H1 else X.fail)
    | _=>X.fail
   | none=>X.fail
  | .slice l base k len _ e=>match frzL H l with
   | some H1=>match H1.get l with
    | .cells cs _=>frzs d cs H1 fun cs' H2=>X.assert (decide (base+k*e+len*e≤cs.length)) (K (.fslice len e (fun i=>(cs'.drop (base+k*e+i*e)).take e)) H2)
    | .rows n e' f _=>if e=e'∧base=0 then X.assert (((List.range n).all fun i=>AVs.free (f i))&&decide (k+len≤n)) (K (.fslice len e (fun i=>f (k+i))) H1) else X.fail
    | .str s _=>if e=1∧base=0 then X.assert (decide (k+len≤s.length)) (K (.fslice len 1 (fun i=>byteRow s (k+i))) H1) else X.fail
    | _=>X.fail
   | none=>X.fail
  | .own l len e=>match frzL H l with
   | some H1=>match H1.get l with
    | .cells cs _=>frzs d cs H1 fun cs' H2=>X.assert (decide (len*e≤cs.length)) (K (.fslice len e (fun i=>(cs'.drop (i*e)).take e)) H2)
    | .rows n e' f _=>if e=e' then X.assert (((List.range n).all fun i=>AVs.free (f i))&&decide (len≤n)) (K (.fslice len e f) H1) else X.fail
    | .str s _=>if e=1 then X.assert (decide (len≤s.length)) (K (.fslice len 1 (byteRow s)) H1) else X.fail
    | _=>X.fail
   | none=>X.fail
  | .map (some _)=>X.fail
  | .yield _=>X.fail
  | .fn f a b=>frzs d a H fun a' H1=>frzs d b H1 fun b' H2=>K (.fn f a' b') H2
  | .iface t a=>frz d a H fun a' H1=>K (.iface t a') H1
  | .agg cs=>frzs d cs H fun cs' H1=>K (.agg cs') H1
  | .tup cs=>frzs d cs H fun cs' H1=>K (.tup cs') H1
  | a=>K a H
def frzs:Nat→List AV→AH→(List AV→AH→R)→R
 | 0,_,_,_=>X.fail
 | d+1,as,H,K=>match as with
  | []=>K [] H
  | a::as=>frz d a H fun a' H1=>frzs d as H1 fun as' H2=>K (a'::as') H2
end
end
section
variable {R:Type} {X:RI R} {sem:R→Prop} (hX:X.Ok sem)
def FrzGives (a:AV) (H:AH) (a':AV) (H':AH): Prop:=H'.n=H.n∧ ∀ c ρ w v,Rel c ρ H w→VR ρ a v→ ∃ ρ',Ext ρ ρ'∧Rel c ρ' H' w∧VR ρ'.bare a' v
def FrzsGives (a:List AV) (H:AH) (a':List AV) (H':AH): Prop:=H'.n=H.n∧ ∀ c ρ w v,Rel c ρ H w→VRs ρ a v→ ∃ ρ',Ext ρ ρ'∧Rel c ρ' H' w∧VRs ρ'.bare a' v
theorem Ext.bb {a b:Env} (h:Ext a b): Ext a.bare b.bare:=h.bare
include hX in
mutual
theorem frz_ok : ∀ (d:Nat) (a:AV) (H:AH) (K:AV→AH→R),sem (frz X d a H K)→ ∃ a' H',sem (K a' H')∧FrzGives a H a' H'
 | 0,a,H,K,h=>by simp only [frz] at h;exact absurd h hX.fail
 | d+1,a,H,K,h=>by
  have same : ∀ a:AV,a.free=true→sem (K a H)→ ∃ a' H',sem (K a' H')∧FrzGives a H a' H':=fun a ha h=>
   ⟨a,H,h,rfl,fun c ρ w v hr hv=>⟨ρ,Ext.refl ρ,hr,VR.free a v ha hv⟩⟩
  have cellsK : ∀ {l:Nat} {H1:AH} {cs:List AV} {rw:Access} {K':List AV→AH→R},frzL H l=some H1→H1.get l= .cells cs rw→sem (frzs X d cs H1 K')→
    ∃ cs' H2,sem (K' cs' H2)∧H2.n=H.n∧ ∀ c ρ w,Rel c ρ H w→ ∃ ρ',Ext ρ ρ'∧Rel c ρ' H2 w∧ ∀ b N,ρ l=some (b,N)→ ∃ vs rest,VRs ρ'.bare cs' vs∧cs.length=vs.length∧(∀ v∈vs,v.oneCell'=true)∧ρ'.fz b=some (vs++rest):=by
   intro l H1 cs rw K' h1 h2 h3
   obtain ⟨cs',H2,e1,e2,e3⟩:=frzs_ok d cs H1 K' h3
   refine ⟨cs',H2,e1,?_,fun c ρ w hr=>?_⟩
   ·unfold frzL at h1
    split at h1<;>cases h1<;>exact e2
   ·obtain ⟨f1,f2,_,ρ1,f3,f4,f5⟩:=frzL_ok h1 hr
    have hrw:rw= .ro:=by
     rw [h2] at f1
     cases hb:H.get l<;>rw [hb] at f1 f2<;>simp [ABlk.froz,ABlk.isRow] at f1 f2
     exact f1.2
    subst hrw
    have hb:=f5.blk l
    rw [h2,f4] at hb
    cases ho:ρ l with
    | none=>
     rw [ho] at hb
     obtain ⟨vs,hvs⟩:=CellsRel.some_vs hb
     obtain ⟨ρ2,g1,g2,g3⟩:=e3 c ρ1 w vs f5 hvs
     exact ⟨ρ2,f3.trans g1,g2,fun b N e=>by cases e⟩
    | some x=>
     obtain ⟨b,N⟩:=x
     rw [ho] at hb
     obtain ⟨vs,rest,k1,k2,k3⟩:=CellsRel.fz hb
     obtain ⟨ρ2,g1,g2,g3⟩:=e3 c ρ1 w vs f5 k1
     exact ⟨ρ2,f3.trans g1,g2,fun b' N' e=>by cases e;exact ⟨vs,rest,g3,k1.length_eq,k2,g1.fz _ _ k3⟩⟩
  have rowsK : ∀ {l:Nat} {H1:AH} {n e:Nat} {f:Nat→List AV} {rw:Access},frzL H l=some H1→H1.get l= .rows n e f rw→((List.range n).all fun i=>AVs.free (f i))=true→
    H1.n=H.n∧ ∀ c ρ w,Rel c ρ H w→ ∃ ρ',Ext ρ ρ'∧Rel c ρ' H1 w∧ ∀ b N,ρ l=some (b,N)→ ∃ vss,FzC ρ' b 0 ((List.range n).flatMap vss)∧ ∀ i,i<n→(vss i).length=e∧VRs ρ'.bare (f i) (vss i):=by
   intro l H1 n e f rw h1 h2 h3
   refine ⟨?_,fun c ρ w hr=>?_⟩
   ·unfold frzL at h1
    split at h1<;>cases h1<;>rfl
   ·obtain ⟨f1,f2,_,ρ1,f3,f4,f5⟩:=frzL_ok h1 hr
    have hrw:rw= .ro:=by
     rw [h2] at f1
     cases hb:H.get l<;>rw [hb] at f1 f2<;>simp [ABlk.froz,ABlk.isRow] at f1 f2
     exact f1.2.2.2
    subst hrw
    refine ⟨ρ1,f3,f5,fun b N ho=>?_⟩
    have hb:=f5.blk l
    rw [h2,f4,ho] at hb
    exact CellsRel.fzRows hb.1 hb.2 fun i hi=>List.all_eq_true.1 h3 i (List.mem_range.2 hi)
  have strK : ∀ {l:Nat} {H1:AH} {s:List UInt8} {rw:Access},frzL H l=some H1→H1.get l= .str s rw→
    H1.n=H.n∧ ∀ c ρ w,Rel c ρ H w→ ∃ ρ',Ext ρ ρ'∧Rel c ρ' H1 w∧ ∀ b N,ρ l=some (b,N)→ ∃ vss,FzC ρ' b 0 ((List.range s.length).flatMap vss)∧ ∀ i,i<s.length→(vss i).length=1∧VRs ρ'.bare (byteRow s i) (vss i):=by
   intro l H1 s rw h1 h2
   refine ⟨?_,fun c ρ w hr=>?_⟩
   ·unfold frzL at h1
    split at h1<;>cases h1<;>rfl
   ·obtain ⟨f1,f2,_,ρ1,f3,f4,f5⟩:=frzL_ok h1 hr
    have hrw:rw= .ro:=by
     rw [h2] at f1
     cases hb:H.get l<;>rw [hb] at f1 f2<;>simp [ABlk.froz,ABlk.isRow] at f1 f2
     exact f1.2
    subst hrw
    refine ⟨ρ1,f3,f5,fun b N ho=>?_⟩
    have hb:=(f5.blk l).un
    rw [h2,f4,ho] at hb
    exact CellsRel.fzRows (e:=1) hb.1 hb.2 fun i hi=>rfl
  cases a with
  | ptr l k e j=>
   simp only [frz] at h
   split at h
   ·rename_i H1 h1
    split at h
    ·rename_i cs rw h2
     obtain ⟨cs',H2,e1,e2,e3⟩:=cellsK h1 h2 h
     refine ⟨_,H2,e1,e2,fun c ρ w v hr hv=>?_⟩
     simp only [VR] at hv
     obtain ⟨b,N,hb,rfl⟩:=hv
     obtain ⟨ρ',g1,g2,g3⟩:=e3 c ρ w hr
     obtain ⟨vs,rest,g4,g5,g6,g7⟩:=g3 b N hb
     refine ⟨ρ',g1,g2,?_⟩
     simp only [VR]
     exact ⟨b,0,vs,by simp,FzC.all (ρ:=ρ'.bare) g7 g6,g4⟩
    ·rename_i n e' f rw h2
     obtain ⟨h3,h4⟩:=hX.assert _ _ h
     simp only [Bool.and_eq_true,decide_eq_true_eq] at h3
     split at h4
     ·rename_i hee
      subst hee
      obtain ⟨e2,e3⟩:=rowsK h1 h2 h3.1
      refine ⟨_,H1,h4,e2,fun c ρ w v hr hv=>?_⟩
      simp only [VR] at hv
      obtain ⟨b,N,hb,rfl⟩:=hv
      obtain ⟨ρ',g1,g2,g3⟩:=e3 c ρ w hr
      obtain ⟨vss,g4,g5⟩:=g3 b N hb
      refine ⟨ρ',g1,g2,?_⟩
      simp only [VR]
      have:=g4.row (fun i hi=>(g5 i hi).1) h3.2
      simp only [Nat.zero_add] at this
      exact ⟨b,k*e,vss k,by simp,this,(g5 k h3.2).2⟩
     ·exact absurd h4 hX.fail
    ·exact absurd h hX.fail
   ·exact absurd h hX.fail
  | slice l base k len cap e=>
   simp only [frz] at h
   split at h
   ·rename_i H1 h1
    split at h
    ·rename_i cs rw h2
     obtain ⟨cs',H2,e1,e2,e3⟩:=cellsK h1 h2 h
     obtain ⟨e1a,e1⟩:=hX.assert _ _ e1
     simp only [decide_eq_true_eq] at e1a
     refine ⟨_,H2,e1,e2,fun c ρ w v hr hv=>?_⟩
     simp only [VR] at hv
     obtain ⟨b,N,cc,a,hb,rfl,hl,hcc,_⟩:=hv
     obtain ⟨ρ',g1,g2,g3⟩:=e3 c ρ w hr
     obtain ⟨vs,rest,g4,g5,g6,g7⟩:=g3 b N hb
     refine ⟨ρ',g1,g2,?_⟩
     simp only [VR]
     obtain ⟨g8,g9⟩:=FzC.rows (ρ:=ρ'.bare) g7 g6 (o:=base+k*e) (e:=e) (len:=len) (by omega)
     exact .inr ⟨b,base+k*e,cc,a,_,rfl,hl,fun hp=>⟨(hcc (by omega)).1,g8,fun i hi=>⟨g9 i hi,(g4.drop _).take _⟩⟩⟩
    ·rename_i n e' f rw h2
     split at h
     ·rename_i hc
      obtain ⟨rfl,rfl⟩:=hc
      obtain ⟨h3,h4⟩:=hX.assert _ _ h
      simp only [Bool.and_eq_true,decide_eq_true_eq] at h3
      obtain ⟨e2,e3⟩:=rowsK h1 h2 h3.1
      refine ⟨_,H1,h4,e2,fun c ρ w v hr hv=>?_⟩
      simp only [VR] at hv
      obtain ⟨b,N,cc,a,hb,rfl,hl,hcc,_⟩:=hv
      obtain ⟨ρ',g1,g2,g3⟩:=e3 c ρ w hr
      obtain ⟨vss,g4,g5⟩:=g3 b N hb
      refine ⟨ρ',g1,g2,?_⟩
      simp only [VR]
      have:=g4.part (fun i hi=>(g5 i hi).1) h3.2
      simp only [Nat.zero_add] at this
      refine .inr ⟨b,k*e,cc,a,fun i=>vss (k+i),rfl,hl,fun hp=>⟨by rw [(hcc (by omega)).1,Nat.zero_add],this,fun i hi=>g5 _ (by omega)⟩⟩
     ·exact absurd h hX.fail
    ·rename_i s rw h2
     split at h
     ·rename_i hc
      obtain ⟨rfl,rfl⟩:=hc
      obtain ⟨h3,h4⟩:=hX.assert _ _ h
      simp only [decide_eq_true_eq] at h3
      obtain ⟨e2,e3⟩:=strK h1 h2
      refine ⟨_,H1,h4,e2,fun c ρ w v hr hv=>?_⟩
      simp only [VR] at hv
      obtain ⟨b,N,cc,a,hb,rfl,hl,hcc,_⟩:=hv
      obtain ⟨ρ',g1,g2,g3⟩:=e3 c ρ w hr
      obtain ⟨vss,g4,g5⟩:=g3 b N hb
      refine ⟨ρ',g1,g2,?_⟩
      simp only [VR]
      have:=g4.part (fun i hi=>(g5 i hi).1) h3
      simp only [Nat.zero_add] at this
      refine .inr ⟨b,k*1,cc,a,fun i=>vss (k+i),rfl,hl,fun hp=>⟨by rw [(hcc (by omega)).1,Nat.zero_add],this,fun i hi=>g5 _ (by omega)⟩⟩
     ·exact absurd h hX.fail
    ·exact absurd h hX.fail
   ·exact absurd h hX.fail
  | own l len e=>
   simp only [frz] at h
   split at h
   ·rename_i H1 h1
    split at h
    ·rename_i cs rw h2
     obtain ⟨cs',H2,e1,e2,e3⟩:=cellsK h1 h2 h
     obtain ⟨e1a,e1⟩:=hX.assert _ _ e1
     simp only [decide_eq_true_eq] at e1a
     refine ⟨_,H2,e1,e2,fun c ρ w v hr hv=>?_⟩
     simp only [VR] at hv
     obtain ⟨ρ',g1,g2,g3⟩:=e3 c ρ w hr
     refine ⟨ρ',g1,g2,?_⟩
     simp only [VR]
     rcases hv with hv | ⟨b,N,cc,hb,rfl,hl,hcc⟩
     ·exact .inl hv
     ·obtain ⟨vs,rest,g4,g5,g6,g7⟩:=g3 b N hb
      obtain ⟨g8,g9⟩:=FzC.rows (ρ:=ρ'.bare) g7 g6 (o:=0) (e:=e) (len:=len) (by omega)
      simp only [Nat.zero_add] at g8 g9
      exact .inr ⟨b,0,cc,_,_,rfl,hl,fun hp=>⟨rfl,g8,fun i hi=>⟨g9 i hi,(g4.drop _).take _⟩⟩⟩
    ·rename_i n e' f rw h2
     split at h
     ·rename_i hc
      subst hc
      obtain ⟨h3,h4⟩:=hX.assert _ _ h
      simp only [Bool.and_eq_true,decide_eq_true_eq] at h3
      obtain ⟨e2,e3⟩:=rowsK h1 h2 h3.1
      refine ⟨_,H1,h4,e2,fun c ρ w v hr hv=>?_⟩
      simp only [VR] at hv
      obtain ⟨ρ',g1,g2,g3⟩:=e3 c ρ w hr
      refine ⟨ρ',g1,g2,?_⟩
      simp only [VR]
      rcases hv with hv | ⟨b,N,cc,hb,rfl,hl,hcc⟩
      ·exact .inl hv
      ·obtain ⟨vss,g4,g5⟩:=g3 b N hb
       have:=g4.part (fun i hi=>(g5 i hi).1) (k:=0) (m:=len) (by omega)
       simp only [Nat.zero_mul,Nat.add_zero,Nat.zero_add] at this
       exact .inr ⟨b,0,cc,_,vss,rfl,hl,fun hp=>⟨rfl,this,fun i hi=>g5 i (by omega)⟩⟩
     ·exact absurd h hX.fail
    ·rename_i s rw h2
     split at h
     ·rename_i hc
      subst hc
      obtain ⟨h3,h4⟩:=hX.assert _ _ h
      simp only [decide_eq_true_eq] at h3
      obtain ⟨e2,e3⟩:=strK h1 h2
      refine ⟨_,H1,h4,e2,fun c ρ w v hr hv=>?_⟩
      simp only [VR] at hv
      obtain ⟨ρ',g1,g2,g3⟩:=e3 c ρ w hr
      refine ⟨ρ',g1,g2,?_⟩
      simp only [VR]
      rcases hv with hv | ⟨b,N,cc,hb,rfl,hl,hcc⟩
      ·exact .inl hv
      ·obtain ⟨vss,g4,g5⟩:=g3 b N hb
       have:=g4.part (fun i hi=>(g5 i hi).1) (k:=0) (m:=len) (by omega)
       simp only [Nat.zero_mul,Nat.add_zero,Nat.zero_add] at this
       exact .inr ⟨b,0,cc,_,vss,rfl,hl,fun hp=>⟨rfl,this,fun i hi=>g5 i (by omega)⟩⟩
     ·exact absurd h hX.fail
    ·exact absurd h hX.fail
   ·exact absurd h hX.fail
  | map l=>
   cases l with
   | none=>simp only [frz] at h;exact same _ rfl h
   | some l=>simp only [frz] at h;exact absurd h hX.fail
  | yield l=>simp only [frz] at h;exact absurd h hX.fail
  | fn f x y=>
   simp only [frz] at h
   obtain ⟨x',H1,h1,h2,h3⟩:=frzs_ok d x H _ h
   obtain ⟨y',H2,h4,h5,h6⟩:=frzs_ok d y H1 _ h1
   refine ⟨_,H2,h4,h5.trans h2,fun c ρ w v hr hv=>?_⟩
   simp only [VR] at hv
   obtain ⟨us,vs,rfl,k1,k2⟩:=hv
   obtain ⟨ρ1,a1,a2,a3⟩:=h3 c ρ w us hr k1
   obtain ⟨ρ2,b1,b2,b3⟩:=h6 c ρ1 w vs a2 (VRs.ext a1 _ _ k2)
   refine ⟨ρ2,a1.trans b1,b2,?_⟩
   simp only [VR]
   exact ⟨us,vs,rfl,VRs.ext b1.bare _ _ a3,b3⟩
  | iface t x=>
   simp only [frz] at h
   obtain ⟨x',H1,h1,h2,h3⟩:=frz_ok d x H _ h
   refine ⟨_,H1,h1,h2,fun c ρ w v hr hv=>?_⟩
   simp only [VR] at hv
   obtain ⟨u,rfl,k1⟩:=hv
   obtain ⟨ρ1,a1,a2,a3⟩:=h3 c ρ w u hr k1
   refine ⟨ρ1,a1,a2,?_⟩
   simp only [VR]
   exact ⟨u,rfl,a3⟩
  | agg cs=>
   simp only [frz] at h
   obtain ⟨x',H1,h1,h2,h3⟩:=frzs_ok d cs H _ h
   refine ⟨_,H1,h1,h2,fun c ρ w v hr hv=>?_⟩
   simp only [VR] at hv
   obtain ⟨us,rfl,k1⟩:=hv
   obtain ⟨ρ1,a1,a2,a3⟩:=h3 c ρ w us hr k1
   refine ⟨ρ1,a1,a2,?_⟩
   simp only [VR]
   exact ⟨us,rfl,a3⟩
  | tup cs=>
   simp only [frz] at h
   obtain ⟨x',H1,h1,h2,h3⟩:=frzs_ok d cs H _ h
   refine ⟨_,H1,h1,h2,fun c ρ w v hr hv=>?_⟩
   simp only [VR] at hv
   obtain ⟨us,rfl,k1⟩:=hv
   obtain ⟨ρ1,a1,a2,a3⟩:=h3 c ρ w us hr k1
   refine ⟨ρ1,a1,a2,?_⟩
   simp only [VR]
   exact ⟨us,rfl,a3⟩
  | _=>simp only [frz] at h;exact same _ rfl h
theorem frzs_ok : ∀ (d:Nat) (a:List AV) (H:AH) (K:List AV→AH→R),sem (frzs X d a H K)→ ∃ a' H',sem (K a' H')∧FrzsGives a H a' H'
 | 0,a,H,K,h=>by simp only [frzs] at h;exact absurd h hX.fail
 | d+1,[],H,K,h=>by
  simp only [frzs] at h
  exact ⟨[],H,h,rfl,fun c ρ w v hr hv=>⟨ρ,Ext.refl ρ,hr,by simpa only [VRs] using hv⟩⟩
 | d+1,a::as,H,K,h=>by
  simp only [frzs] at h
  obtain ⟨x,H1,h1,h2,h3⟩:=frz_ok d a H _ h
  obtain ⟨y,H2,h4,h5,h6⟩:=frzs_ok d as H1 _ h1
  refine ⟨_,H2,h4,h5.trans h2,fun c ρ w v hr hv=>?_⟩
  simp only [VRs] at hv
  obtain ⟨u,us,rfl,k1,k2⟩:=hv
  obtain ⟨ρ1,a1,a2,a3⟩:=h3 c ρ w u hr k1
  obtain ⟨ρ2,b1,b2,b3⟩:=h6 c ρ1 w us a2 (VRs.ext a1 _ _ k2)
  exact ⟨ρ2,a1.trans b1,b2,VRs.cons_iff.2 ⟨VR.ext b1.bare _ _ a3,b3⟩⟩
end
end
theorem CallGives.fzArgs {P:Program} {I:Info} {f:FuncId} {args args':List AV} {H H':AH} {o:CO} (hf:FrzsGives args H args' H') (h:CallGives P I f args' H' o): CallGives P I f args H o:=by
 intro c ρ w vs hG hv hr
 obtain ⟨ρ1,h1,h2,h3⟩:=hf.2 c ρ w vs hr hv
 have post : ∀ e w',o.post c ρ1 e w'→o.post c ρ e w':=fun e w' hp=>CO.post_ext h1 hp
 rcases h c ρ1 w vs hG (VRs.ext (Ext.of_bare ρ1) _ _ h3) h2 with ⟨k1,k2⟩ | ⟨v,w',k1,k2⟩
 ·exact .inl ⟨k1,k2.mono post⟩
 ·exact .inr ⟨v,w',k1,post _ _ k2⟩
theorem CallGives.fzRes {P:Program} {I:Info} {f:FuncId} {args:List AV} {H H1 H2:AH} {a a':AV} (h:CallGives P I f args H (.ret a H1)) (hf:FrzGives a H1 a' H2): CallGives P I f args H (.ret a' H2):=by
 intro c ρ w vs hG hv hr
 have post : ∀ e w',(CO.ret a H1).post c ρ e w'→(CO.ret a' H2).post c ρ e w':=by
  intro e w' hp
  cases e with
  | returned v=>
   obtain ⟨ρ1,k1,k2,k3⟩:=hp
   obtain ⟨ρ2,g1,g2,g3⟩:=hf.2 c ρ1 w' v k2 k3
   exact ⟨ρ2,k1.trans g1,g2,VR.ext (Ext.of_bare ρ2) _ _ g3⟩
  | panicked ch=>exact hp.elim
  | outgrown=>exact hp.elim
 rcases h c ρ w vs hG hv hr with ⟨k1,k2⟩ | ⟨v,w',k1,k2⟩
 ·exact .inl ⟨k1,k2.mono post⟩
 ·exact .inr ⟨v,w',k1,post _ _ k2⟩
def fk (n0:Nat) (Q:AV→Prop): AV→AH→Prop:=fun a H1=>frz RI.prop 100000 a H1 fun a' H2=>Asks (Nat.ble n0 H2.n) (Q a')
theorem CallGives.of_fk {P:Program} {I:Info} (hI:I.Ok P) (ks:List (Known P I)) {Λ:Loops Prop} (hΛ:LoopsOk P I id Λ) (fuel:Nat) {f:FuncId} {args:List AV} {a':AV}
  (hle : ∀ σ,AV.le σ a' a') (h:kbody ks Λ fuel f args (AH.blank I.G) (fk I.G fun a=>a=a') (fun _ _=>False)): CallGives P I f args (AH.blank I.G) (.ret a' (AH.blank I.G)):=by
 obtain ⟨o,h1,h2⟩:=kbody_ok hI ks hΛ fuel f args (AH.blank I.G) _ _ h
 cases o with
 | ret a H1=>
  obtain ⟨x,H2,k1,k2⟩:=frz_ok RI.prop_ok _ _ _ _ h1
  cases hb:Nat.ble I.G H2.n with
  | false=>
   have k1:Asks (Nat.ble I.G H2.n) (x=a'):=k1
   rw [hb] at k1;exact k1.elim
  | true=>
   have k1:Asks (Nat.ble I.G H2.n) (x=a'):=k1
   rw [hb] at k1
   have k1:x=a':=k1
   subst k1
   exact (h2.fzRes k2).le (ResLe.of [] (HeapLe.of (by show I.G+0=I.G;rfl) rfl rfl rfl hb (allN_iff.2 fun _ _=>trivial)) (hle _))
 | pan a H1=>exact h1.elim
def Known.pure {P:Program} {I:Info} (f:FuncId) (spec:{R:Type}→RI R→List AV→(AV→R)→R)
  (ok : ∀ {R:Type} (X:RI R) (sem:R→Prop),X.Ok sem→ ∀ args kn,sem (spec X args kn)→ ∃ a,sem (kn a)∧(∀ σ,a.ren σ=a)∧(∀ σ,AVs.ren σ args=args)∧CallGives P I f args (AH.blank I.G) (.ret a (AH.blank I.G))): Known P I where
 f:=f
 spec X args H kn _:=frzs X 100000 args H fun args' H'=>spec X args' fun a=>kn a H'
 ok X sem hX args H kn kp h:=by
  obtain ⟨args',H',h1,h2⟩:=frzs_ok hX _ _ _ _ h
  obtain ⟨a,k1,k2,k3,k4⟩:=ok X sem hX _ _ h1
  exact ⟨.ret a H',k1,(k4.pure k3 k2 H').fzArgs h2⟩
end Go.Sx
end
section
namespace Go.Sx
open Go
def cutRow (cs:List AV) (e i:Nat): List AV:=(cs.drop (i*e)).take e
def RowsLe (n:Nat) (f g:Nat→List AV): Prop := ∀ i,i<n→ ∀ σ,AVs.le σ (f i) (g i)
theorem RowsLe.same {n:Nat} {f:Nat→List AV} (h : ∀ σ i,AVs.le σ (f i) (f i)): RowsLe n f f:=fun i _ σ=>h σ i
def EqN (a b:Nat) (K:Prop): Prop:=match Nat.beq a b with | true=>K | false=>a=b∧K
def EqI (a b:Int) (K:Prop): Prop:=match decide (a=b) with | true=>K | false=>a=b∧K
def EqB (a b:List UInt8) (K:Prop): Prop:=a=b∧K
theorem EqB.mk {a b:List UInt8} {K:Prop} (h:a=b) (k:K): EqB a b K:=⟨h,k⟩
theorem EqN.ok {a b:Nat} {K:Prop} (h:EqN a b K): a=b∧K:=by
 unfold EqN at h
 split at h
 ·rename_i e;exact ⟨Nat.eq_of_beq_eq_true e,h⟩
 ·exact h
theorem EqN.mk {a b:Nat} {K:Prop} (h:a=b) (k:K): EqN a b K:=by
 unfold EqN
 split
 ·exact k
 ·exact ⟨h,k⟩
theorem EqI.ok {a b:Int} {K:Prop} (h:EqI a b K): a=b∧K:=by
 unfold EqI at h
 split at h
 ·rename_i e;exact ⟨of_decide_eq_true e,h⟩
 ·exact h
theorem EqI.mk {a b:Int} {K:Prop} (h:a=b) (k:K): EqI a b K:=by
 unfold EqI
 split
 ·exact k
 ·exact ⟨h,k⟩
def capq (c c':Option Nat) (K:Prop): Prop :=
 match c' with
 | none=>K
 | some n'=>match c with
  | some n=>EqN n n' K
  | none=>False
mutual
def AV.lq (σ:Nat→Nat): AV→AV→Prop→Prop
 | _,.any,K=>K
 | .bool a,.bool b,K=>a=b∧K
 | .int k x,.int k' y,K=>Asks (decide (k=k')) (EqI x y K)
 | .str s,.str t,K=>EqB s t K
 | .ptr a b c d,.ptr a' b' c' d',K=>Asks (Nat.beq a (σ a')) (EqN b b' (EqN c c' (EqN d d' K)))
 | .nilPtr,.nilPtr,K=>K
 | .slice a b c d e f,.slice a' b' c' d' e' f',K=>Asks (Nat.beq a (σ a')&&Nat.beq b b'&&Nat.beq f f') (EqN c c' (EqN d d' (capq e e' K)))
 | .nilSlice,.nilSlice,K=>K
 | .nilSlice,.own _ n _,K=>EqN n 0 K
 | .nilSlice,.fslice n _ _,K=>EqN n 0 K
 | .own a b c,.own a' b' c',K=>Asks (Nat.beq a (σ a')&&Nat.beq c c') (EqN b b' K)
 | .map none,.map none,K=>K
 | .map (some a),.map (some b),K=>Asks (Nat.beq a (σ b)) K
 | .fn f a b,.fn f' a' b',K=>Asks (Nat.beq f f') (AVs.lq σ a a' (AVs.lq σ b b' K))
 | .yield a,.yield b,K=>Asks (Nat.beq a (σ b)) K
 | .nilFn,.nilFn,K=>K
 | .nilIface,.nilIface,K=>K
 | .iface t a,.iface t' a',K=>Asks (Nat.beq t t') (AV.lq σ a a' K)
 | .agg a,.agg b,K=>AVs.lq σ a b K
 | .tup a,.tup b,K=>AVs.lq σ a b K
 | .fptr cs j,.fptr cs' j',K=>Asks (Nat.beq j j') (AVs.lq σ cs cs' K)
 | .fslice n e f,.fslice n' e' g,K=>Asks (Nat.beq e e') (EqN n n' (RowsLe n f g∧K))
 | _,_,_=>False
def AVs.lq (σ:Nat→Nat): List AV→List AV→Prop→Prop
 | [],[],K=>K
 | a::as,b::bs,K=>AV.lq σ a b (AVs.lq σ as bs K)
 | _,_,_=>False
end
theorem Asks.and {b:Bool} {x:Prop} (h:Asks b x): b=true∧x:=by
 cases b with
 | true=>exact ⟨rfl,h⟩
 | false=>exact h.elim
theorem capq_ok {c c':Option Nat} {K:Prop} (h:capq c c' K): (∀ x,c'=some x→c=some x)∧K:=by
 unfold capq at h
 split at h
 ·exact ⟨(fun _ e=>by cases e),h⟩
 ·split at h
  ·obtain ⟨rfl,h2⟩:=EqN.ok h;exact ⟨fun _ e=>e,h2⟩
  ·exact h.elim
mutual
theorem AV.lq_ok {σ:Nat→Nat}: ∀ (a b:AV) (K:Prop),AV.lq σ a b K→AV.le σ a b∧K
 | .bool _,b,K,h=>by cases b<;>simp only [AV.lq] at h<;>simp only [AV.le]<;>simp_all
 | .int _ _,b,K,h=>by
  cases b<;>simp only [AV.lq] at h<;>simp only [AV.le]
  ·obtain ⟨h1,h2⟩:=Asks.and h;obtain ⟨h2,h3⟩:=EqI.ok h2;simp only [decide_eq_true_eq] at h1;exact ⟨⟨h1,h2⟩,h3⟩
  ·exact ⟨trivial,h⟩
 | .str _,b,K,h=>by cases b<;>simp only [AV.lq] at h<;>simp only [AV.le]<;>first | exact h | exact ⟨trivial,h⟩
 | .ptr _ _ _ _,b,K,h=>by
  cases b<;>simp only [AV.lq] at h<;>simp only [AV.le]
  ·obtain ⟨h1,h2⟩:=Asks.and h;obtain ⟨h2,h3⟩:=EqN.ok h2;obtain ⟨h3,h4⟩:=EqN.ok h3;obtain ⟨h4,h5⟩:=EqN.ok h4;exact ⟨⟨Nat.eq_of_beq_eq_true h1,h2,h3,h4⟩,h5⟩
  ·exact ⟨trivial,h⟩
 | .nilPtr,b,K,h=>by cases b<;>simp only [AV.lq] at h<;>simp only [AV.le]<;>simp_all
 | .slice _ _ _ _ _ _,b,K,h=>by
  cases b<;>simp only [AV.lq] at h<;>simp only [AV.le]
  ·obtain ⟨h1,h2⟩:=Asks.and h
   obtain ⟨h2,h3⟩:=EqN.ok h2
   obtain ⟨h3,h4⟩:=EqN.ok h3
   obtain ⟨h5,h6⟩:=capq_ok h4
   simp only [Bool.and_eq_true] at h1
   exact ⟨⟨Nat.eq_of_beq_eq_true h1.1.1,Nat.eq_of_beq_eq_true h1.1.2,h2,h3,h5,Nat.eq_of_beq_eq_true h1.2⟩,h6⟩
  ·exact ⟨trivial,h⟩
 | .nilSlice,b,K,h=>by cases b<;>simp only [AV.lq] at h<;>simp only [AV.le]<;>first | exact ⟨trivial,h⟩ | exact EqN.ok h
 | .own _ _ _,b,K,h=>by
  cases b<;>simp only [AV.lq] at h<;>simp only [AV.le]
  ·obtain ⟨h1,h2⟩:=Asks.and h
   obtain ⟨h2,h3⟩:=EqN.ok h2
   simp only [Bool.and_eq_true] at h1
   exact ⟨⟨Nat.eq_of_beq_eq_true h1.1,h2,Nat.eq_of_beq_eq_true h1.2⟩,h3⟩
  ·exact ⟨trivial,h⟩
 | .map none,b,K,h=>by
  cases b with
  | map l=>cases l<;>simp only [AV.lq] at h;simp only [AV.le];exact ⟨trivial,h⟩
  | any=>simp only [AV.lq] at h;simp only [AV.le];exact ⟨trivial,h⟩
  | _=>simp only [AV.lq] at h
 | .map (some _),b,K,h=>by
  cases b with
  | map l=>
   cases l<;>simp only [AV.lq] at h
   simp only [AV.le];obtain ⟨h1,h2⟩:=Asks.and h;exact ⟨Nat.eq_of_beq_eq_true h1,h2⟩
  | any=>simp only [AV.lq] at h;simp only [AV.le];exact ⟨trivial,h⟩
  | _=>simp only [AV.lq] at h
 | .fn _ x y,b,K,h=>by
  cases b<;>simp only [AV.lq] at h<;>simp only [AV.le]
  ·obtain ⟨h1,h2⟩:=Asks.and h
   obtain ⟨h3,h4⟩:=AVs.lq_ok x _ _ h2
   obtain ⟨h5,h6⟩:=AVs.lq_ok y _ _ h4
   exact ⟨⟨Nat.eq_of_beq_eq_true h1,h3,h5⟩,h6⟩
  ·exact ⟨trivial,h⟩
 | .yield _,b,K,h=>by
  cases b<;>simp only [AV.lq] at h<;>simp only [AV.le]
  ·obtain ⟨h1,h2⟩:=Asks.and h;exact ⟨Nat.eq_of_beq_eq_true h1,h2⟩
  ·exact ⟨trivial,h⟩
 | .nilFn,b,K,h=>by cases b<;>simp only [AV.lq] at h<;>simp only [AV.le]<;>simp_all
 | .nilIface,b,K,h=>by cases b<;>simp only [AV.lq] at h<;>simp only [AV.le]<;>simp_all
 | .iface _ x,b,K,h=>by
  cases b<;>simp only [AV.lq] at h<;>simp only [AV.le]
  ·obtain ⟨h1,h2⟩:=Asks.and h
   obtain ⟨h3,h4⟩:=AV.lq_ok x _ _ h2
   exact ⟨⟨Nat.eq_of_beq_eq_true h1,h3⟩,h4⟩
  ·exact ⟨trivial,h⟩
 | .agg x,b,K,h=>by
  cases b<;>simp only [AV.lq] at h<;>simp only [AV.le]
  ·exact AVs.lq_ok x _ _ h
  ·exact ⟨trivial,h⟩
 | .tup x,b,K,h=>by
  cases b<;>simp only [AV.lq] at h<;>simp only [AV.le]
  ·exact AVs.lq_ok x _ _ h
  ·exact ⟨trivial,h⟩
 | .any,b,K,h=>by cases b<;>simp only [AV.lq] at h<;>simp only [AV.le]<;>simp_all
 | .fptr x _,b,K,h=>by
  cases b<;>simp only [AV.lq] at h<;>simp only [AV.le]
  ·exact ⟨trivial,h⟩
  ·obtain ⟨h1,h2⟩:=Asks.and h
   obtain ⟨h3,h4⟩:=AVs.lq_ok x _ _ h2
   exact ⟨⟨h3,Nat.eq_of_beq_eq_true h1⟩,h4⟩
 | .fslice _ _ _,b,K,h=>by
  cases b<;>simp only [AV.lq] at h<;>simp only [AV.le]
  ·exact ⟨trivial,h⟩
  ·obtain ⟨h1,h2⟩:=Asks.and h
   obtain ⟨h2,h3,h4⟩:=EqN.ok h2
   exact ⟨⟨h2,Nat.eq_of_beq_eq_true h1,fun i hi=>h3 i hi σ⟩,h4⟩
theorem AVs.lq_ok {σ:Nat→Nat}: ∀ (a b:List AV) (K:Prop),AVs.lq σ a b K→AVs.le σ a b∧K
 | [],[],K,h=>⟨by simp only [AVs.le],h⟩
 | a::as,b::bs,K,h=>by
  simp only [AVs.lq] at h
  obtain ⟨h1,h2⟩:=AV.lq_ok a _ _ h
  obtain ⟨h3,h4⟩:=AVs.lq_ok as _ _ h2
  exact ⟨by simp only [AVs.le];exact ⟨h1,h3⟩,h4⟩
 | [],_::_,K,h=>by simp only [AVs.lq] at h
 | _::_,[],K,h=>by simp only [AVs.lq] at h
end
def Tr.lq (σ:Nat→Nat): Tr AV→Tr AV→Prop→Prop
 | _,.e,K=>K
 | .e,.n l v r,K=>Tr.lq σ .e l (match v with | none=>Tr.lq σ .e r K | some a=>AV.lq σ .any a (Tr.lq σ .e r K))
 | .n l v r,.n l' v' r',K=>Tr.lq σ l l' (match v' with | none=>Tr.lq σ r r' K | some b=>match v with | some a=>AV.lq σ a b (Tr.lq σ r r' K) | none=>AV.lq σ .any b (Tr.lq σ r r' K))
theorem Tr.lq_ok {σ:Nat→Nat}: ∀ (t t':Tr AV) (K:Prop),Tr.lq σ t t' K→Tr.le σ t t'∧K
 | .e,.e,K,h=>⟨by simp only [Tr.le],by simpa only [Tr.lq] using h⟩
 | .n _ _ _,.e,K,h=>⟨by simp only [Tr.le],by simpa only [Tr.lq] using h⟩
 | .e,.n l v r,K,h=>by
  simp only [Tr.lq] at h
  obtain ⟨h1,h2⟩:=Tr.lq_ok _ _ _ h
  cases v with
  | none=>
   obtain ⟨h3,h4⟩:=Tr.lq_ok _ _ _ h2
   exact ⟨by simp only [Tr.le];exact ⟨h1,trivial,h3⟩,h4⟩
  | some a=>
   obtain ⟨h3,h4⟩:=AV.lq_ok _ _ _ h2
   obtain ⟨h5,h6⟩:=Tr.lq_ok _ _ _ h4
   exact ⟨by simp only [Tr.le];exact ⟨h1,h3,h5⟩,h6⟩
 | .n l v r,.n l' v' r',K,h=>by
  simp only [Tr.lq] at h
  obtain ⟨h1,h2⟩:=Tr.lq_ok _ _ _ h
  cases v' with
  | none=>
   obtain ⟨h3,h4⟩:=Tr.lq_ok _ _ _ h2
   refine ⟨?_,h4⟩
   simp only [Tr.le]
   exact ⟨h1,by cases v<;>trivial,h3⟩
  | some b=>
   cases v with
   | none=>
    obtain ⟨h3,h4⟩:=AV.lq_ok _ _ _ h2
    obtain ⟨h5,h6⟩:=Tr.lq_ok _ _ _ h4
    exact ⟨by simp only [Tr.le];exact ⟨h1,h3,h5⟩,h6⟩
   | some a=>
    obtain ⟨h3,h4⟩:=AV.lq_ok _ _ _ h2
    obtain ⟨h5,h6⟩:=Tr.lq_ok _ _ _ h4
    exact ⟨by simp only [Tr.le];exact ⟨h1,h3,h5⟩,h6⟩
def Access.leb:Access→Access→Bool
 | .ro,.ro=>true
 | .wr,.wr=>true
 | .ty _,.wr=>true
 | .ty e,.ty e'=>Nat.beq e e'
 | _,_=>false
theorem Access.leb_ok : ∀ {a b:Access},a.leb b=true→a.le b
 | .ro,.ro,_=>trivial
 | .wr,.wr,_=>trivial
 | .ty _,.wr,_=>trivial
 | .ty _,.ty _,h=>Nat.eq_of_beq_eq_true h
 | .ro,.wr,h=>by cases h
 | .ro,.ty _,h=>by cases h
 | .wr,.ro,h=>by cases h
 | .wr,.ty _,h=>by cases h
 | .ty _,.ro,h=>by cases h
def esq (σ:Nat→Nat): List (AV×AV)→List (AV×AV)→Prop→Prop
 | [],[],K=>K
 | a::as,b::bs,K=>AV.lq σ a.1 b.1 (AV.lq σ a.2 b.2 (esq σ as bs K))
 | _,_,_=>False
theorem esq_ok {σ:Nat→Nat}: ∀ (a b:List (AV×AV)) (K:Prop),esq σ a b K→(AVs.le σ (a.map (·.1)) (b.map (·.1))∧AVs.le σ (a.map (·.2)) (b.map (·.2)))∧K
 | [],[],K,h=>⟨by simp [AVs.le],h⟩
 | a::as,b::bs,K,h=>by
  simp only [esq] at h
  obtain ⟨h1,h2⟩:=AV.lq_ok _ _ _ h
  obtain ⟨h3,h4⟩:=AV.lq_ok _ _ _ h2
  obtain ⟨⟨h5,h6⟩,h7⟩:=esq_ok as bs _ h4
  exact ⟨by simp only [List.map_cons,AVs.le];exact ⟨⟨h1,h5⟩,h3,h6⟩,h7⟩
 | [],_::_,K,h=>by simp only [esq] at h
 | _::_,[],K,h=>by simp only [esq] at h
def SameCode (a b:Code): Prop:=a=b
def lsBeq:LoopState→LoopState→Bool
 | .ready,.ready=>true
 | .busy,.busy=>true
 | .done,.done=>true
 | _,_=>false
theorem lsBeq_ok : ∀ {a b:LoopState},lsBeq a b=true→a=b
 | .ready,.ready,_=>rfl
 | .busy,.busy,_=>rfl
 | .done,.done,_=>rfl
 | .ready,.busy,h=>by cases h
 | .ready,.done,h=>by cases h
 | .busy,.ready,h=>by cases h
 | .busy,.done,h=>by cases h
 | .done,.ready,h=>by cases h
 | .done,.busy,h=>by cases h
def natsEq:List Nat→List Nat→Bool
 | [],[]=>true
 | a::as,b::bs=>Nat.beq a b&&natsEq as bs
 | _,_=>false
theorem natsEq_ok : ∀ {a b:List Nat},natsEq a b=true→a=b
 | [],[],_=>rfl
 | a::as,b::bs,h=>by
  simp only [natsEq,Bool.and_eq_true] at h
  rw [Nat.eq_of_beq_eq_true h.1,natsEq_ok h.2]
 | [],_::_,h=>by cases h
 | _::_,[],h=>by cases h
def markBeq:Bool→Bool→Bool
 | true,true=>true
 | false,false=>true
 | _,_=>false
theorem markBeq_ok : ∀ {a b:Bool},markBeq a b=true→a=b
 | true,true,_=>rfl
 | false,false,_=>rfl
def IsetLe (n:Nat) (f g:Nat→Int): Prop := ∀ i,i<n→f i=g i
theorem IsetLe.same {n:Nat} {f:Nat→Int}: IsetLe n f f:=fun _ _=>rfl
def ABlk.lq (σ:Nat→Nat): ABlk→ABlk→Prop→Prop
 | _,.dead,K=>K
 | .cells cs rw,.cells cs' rw',K=>Asks (rw.leb rw') (AVs.lq σ cs cs' K)
 | .rows n e f rw,.rows n' e' g rw',K=>Asks (rw.leb rw'&&Nat.beq e e') (EqN n n' (RowsLe n f g∧K))
 | .cells cs rw,.rows n e g rw',K=>Asks (rw.leb rw'&&Nat.blt 0 e) (EqN cs.length (n*e) (RowsLe n (cutRow cs e) g∧K))
 | .str s rw,.str s' rw',K=>Asks (rw.leb rw') (EqB s s' K)
 | .rows n _ f rw,.cells cs rw',K=>Asks (rw.leb rw') (AVs.lq σ (rowsOf n f) cs K)
 | .map es,.map es',K=>Asks (markBeq (isMark es) (isMark es')) (esq σ (unmark es) (unmark es') K)
 | .dfr,.dfr,K=>K
 | .iter l,.iter l',K=>Asks (Nat.beq l (σ l')) K
 | .iset n f,.iset n' g,K=>EqN n n' (IsetLe n f g∧K)
 | .map es,.iset n _,K=>match es with | []=>EqN 0 n K | _::_=>False
 | .iwalk l s S,.iwalk l' s' S',K=>Asks (Nat.beq l (σ l')) (EqN s s' (S=S'∧K))
 | .loop st none t nt ps as bd df,.loop st' none t' nt' ps' as' bd' df',K=>Asks (lsBeq st st'&&Nat.beq nt nt'&&natsEq ps ps'&&Nat.beq df (σ df')) (SameCode as as'∧SameCode bd bd'∧Tr.lq σ t t' K)
 | _,_,_=>False
theorem ABlk.lq_ok {σ:Nat→Nat} (a b:ABlk) (K:Prop) (h:ABlk.lq σ a b K): a.le σ b∧K:=by
 unfold ABlk.lq at h
 split at h
 ·exact ⟨by simp only [ABlk.le],h⟩
 ·obtain ⟨h1,h2⟩:=Asks.and h
  obtain ⟨h3,h4⟩:=AVs.lq_ok _ _ _ h2
  exact ⟨⟨h3,Access.leb_ok h1⟩,h4⟩
 ·obtain ⟨h1,h2⟩:=Asks.and h
  obtain ⟨h2,h3,h4⟩:=EqN.ok h2
  simp only [Bool.and_eq_true] at h1
  exact ⟨⟨h2,Nat.eq_of_beq_eq_true h1.2,fun i hi=>h3 i hi σ,Access.leb_ok h1.1⟩,h4⟩
 ·obtain ⟨h1,h2⟩:=Asks.and h
  obtain ⟨h2,h3,h4⟩:=EqN.ok h2
  simp only [Bool.and_eq_true,Nat.blt_eq] at h1
  exact ⟨⟨h2,fun i hi=>h3 i hi σ,h1.2,Access.leb_ok h1.1⟩,h4⟩
 ·obtain ⟨h1,h2,h3⟩:=Asks.and h
  exact ⟨⟨h2,Access.leb_ok h1⟩,h3⟩
 ·obtain ⟨h1,h2⟩:=Asks.and h
  obtain ⟨h3,h4⟩:=AVs.lq_ok _ _ _ h2
  exact ⟨⟨h3,Access.leb_ok h1⟩,h4⟩
 ·obtain ⟨h0,h⟩:=Asks.and h
  obtain ⟨h1,h2⟩:=esq_ok _ _ _ h
  exact ⟨⟨markBeq_ok h0,h1⟩,h2⟩
 ·exact ⟨trivial,h⟩
 ·obtain ⟨h1,h2⟩:=Asks.and h
  exact ⟨Nat.eq_of_beq_eq_true h1,h2⟩
 ·obtain ⟨h1,h2,h3⟩:=EqN.ok h
  exact ⟨⟨h1,h2⟩,h3⟩
 ·split at h
  ·obtain ⟨h1,h2⟩:=EqN.ok h
   exact ⟨⟨rfl,h1.symm⟩,h2⟩
  ·exact h.elim
 ·obtain ⟨h1,h2⟩:=Asks.and h
  obtain ⟨h3,h4,h5⟩:=EqN.ok h2
  exact ⟨⟨Nat.eq_of_beq_eq_true h1,h3,h4⟩,h5⟩
 ·obtain ⟨h1,h2,h3,h4⟩:=Asks.and h
  obtain ⟨h5,h6⟩:=Tr.lq_ok _ _ _ h4
  simp only [Bool.and_eq_true] at h1
  exact ⟨⟨lsBeq_ok h1.1.1.1,rfl,h5,Nat.eq_of_beq_eq_true h1.1.1.2,natsEq_ok h1.1.2,h2,h3,Nat.eq_of_beq_eq_true h1.2⟩,h6⟩
 ·exact h.elim
mutual
def AV.pairs:AV→AV→List (Nat×Nat)→List (Nat×Nat)
 | .ptr l _ _ _,.ptr l' _ _ _,K=>(l',l)::K
 | .slice l _ _ _ _ _,.slice l' _ _ _ _ _,K=>(l',l)::K
 | .own l _ _,.own l' _ _,K=>(l',l)::K
 | .map (some l),.map (some l'),K=>(l',l)::K
 | .yield l,.yield l',K=>(l',l)::K
 | .fn _ a b,.fn _ a' b',K=>AVs.pairs a a' (AVs.pairs b b' K)
 | .iface _ a,.iface _ a',K=>AV.pairs a a' K
 | .agg a,.agg b,K=>AVs.pairs a b K
 | .tup a,.tup b,K=>AVs.pairs a b K
 | _,_,K=>K
def AVs.pairs:List AV→List AV→List (Nat×Nat)→List (Nat×Nat)
 | a::as,b::bs,K=>AV.pairs a b (AVs.pairs as bs K)
 | _,_,K=>K
end
def Tr.pairs:Tr AV→Tr AV→List (Nat×Nat)→List (Nat×Nat)
 | .n l v r,.n l' v' r',K=>Tr.pairs l l' (match v with | some a=>(match v' with | some b=>AV.pairs a b (Tr.pairs r r' K) | none=>Tr.pairs r r' K) | none=>Tr.pairs r r' K)
 | _,_,K=>K
def ABlk.pairs:ABlk→ABlk→List (Nat×Nat)
 | .cells a _,.cells b _=>AVs.pairs a b []
 | .map a,.map b=>AVs.pairs (a.map (·.2)) (b.map (·.2)) []
 | .iwalk l _ _,.iwalk l' _ _=>[(l',l)]
 | _,_=>[]
def look (x:Nat): List (Nat×Nat)→Option Nat
 | []=>none
 | (a,b)::r=>bif Nat.beq a x then some b else look x r
def guess (n0:Nat) (H H':AH): Nat→List (Nat×Nat)→List (Nat×Nat)→List (Nat×Nat)
 | 0,acc,_=>acc
 | _+1,acc,[]=>acc
 | d+1,acc,(a,b)::r=>bif Nat.blt a n0 then guess n0 H H' d acc r else match look a acc with
  | some _=>guess n0 H H' d acc r
  | none=>guess n0 H H' d ((a,b)::acc) ((H.get b).pairs (H'.get a)++r)
def oldPairs (H H':AH): Nat→List (Nat×Nat)→List (Nat×Nat)
 | 0,K=>K
 | n+1,K=>oldPairs H H' n ((H.get n).pairs (H'.get n)++K)
def labsOf (n0:Nat) (H H':AH) (ps:List (Nat×Nat)): List Nat :=
 (List.range (H'.n-n0)).map fun q=>match look (n0+q) (guess n0 H H' 1000 [] (oldPairs H H' n0 ps)) with | some x=>x | none=>H.n+(n0+q)
def nothQ:ABlk→Prop→Prop
 | .cells [] _,K=>K
 | .rows n _ _ _,K=>EqN n 0 K
 | .str s _,K=>EqB s [] K
 | _,_=>False
theorem nothQ_ok {b:ABlk} {K:Prop} (h:nothQ b K): b.nothing∧K:=by
 unfold nothQ at h
 split at h
 ·exact ⟨rfl,h⟩
 ·exact EqN.ok h
 ·exact h
 ·exact h.elim
def blksLq (σ:Nat→Nat) (N:Nat) (H H':AH): Nat→Prop→Prop
 | 0,K=>K
 | n+1,K=>match H'.get n with
  | .dead=>blksLq σ N H H' n K
  | b=>match Nat.blt (σ n) N with
   | true=>ABlk.lq σ (H.get (σ n)) b (blksLq σ N H H' n K)
   | false=>nothQ b (blksLq σ N H H' n K)
def heapLq (n0:Nat) (labs:List Nat) (H H':AH) (K:Prop): Prop :=
 Asks (Nat.beq (n0+labs.length) H'.n&&(labs.all fun x=>Nat.ble n0 x||(H'.get x).isDead)&&nodupN labs&&H'.lowB&&Nat.ble n0 H.n) (blksLq (sig n0 labs H.n) H.n H H' H'.n K)
theorem blksLq_ok {σ:Nat→Nat} {N:Nat} {H H':AH}: ∀ {n:Nat} {K:Prop},blksLq σ N H H' n K→(∀ l,l<n→okBlk σ N l H (H'.get l))∧K
 | 0,K,h=>⟨fun l hl=>absurd hl (Nat.not_lt_zero _),h⟩
 | n+1,K,h=>by
  have key:okBlk σ N n H (H'.get n)∧blksLq σ N H H' n K:=by
   unfold blksLq at h
   split at h
   ·rename_i e
    rw [e];exact ⟨trivial,h⟩
   ·rename_i hne
    unfold okBlk
    split
    ·rename_i e;exact absurd e hne
    ·split at h
     ·rename_i hb
      obtain ⟨h1,h2⟩:=ABlk.lq_ok _ _ _ h
      rw [if_pos (by rwa [Nat.blt_eq] at hb)]
      exact ⟨h1,h2⟩
     ·rename_i hb
      rw [if_neg (by intro hlt;rw [←Nat.blt_eq] at hlt;rw [hlt] at hb;cases hb)]
      exact nothQ_ok h
  obtain ⟨h1,h2⟩:=blksLq_ok key.2
  refine ⟨fun l hl=>?_,h2⟩
  by_cases e:l=n
  ·subst e;exact key.1
  ·exact h1 l (by omega)
theorem heapLq_ok {n0:Nat} {labs:List Nat} {H H':AH} {K:Prop} (h:heapLq n0 labs H H' K): HeapLe n0 labs H H'∧K:=by
 obtain ⟨h1,h2⟩:=Asks.and h
 obtain ⟨h3,h4⟩:=blksLq_ok h2
 simp only [Bool.and_eq_true] at h1
 obtain ⟨⟨⟨⟨a1,a2⟩,a3⟩,a4⟩,a5⟩:=h1
 exact ⟨HeapLe.of (Nat.eq_of_beq_eq_true a1) a2 a3 a4 a5 (allN_iff.2 h3),h4⟩
def natsBeq:List Nat→List Nat→Bool
 | [],[]=>true
 | a::as,b::bs=>Nat.beq a b&&natsBeq as bs
 | _,_=>false
theorem natsBeq_ok : ∀ {a b:List Nat},natsBeq a b=true→a=b
 | [],[],_=>rfl
 | a::as,b::bs,h=>by
  simp only [natsBeq,Bool.and_eq_true] at h
  rw [Nat.eq_of_beq_eq_true h.1,natsBeq_ok h.2]
 | [],_::_,h=>by cases h
 | _::_,[],h=>by cases h
def StLq (n0:Nat) (s s':St) (K:Prop): Prop :=
 heapLq n0 (labsOf n0 s.H s'.H (Tr.pairs s.t s'.t [])) s.H s'.H
  (Asks (Nat.beq s.nt s'.nt&&natsBeq s.df (s'.df.map (sig n0 (labsOf n0 s.H s'.H (Tr.pairs s.t s'.t [])) s.H.n)))
   (Tr.lq (sig n0 (labsOf n0 s.H s'.H (Tr.pairs s.t s'.t [])) s.H.n) s.t s'.t K))
theorem StLq.ok {n0:Nat} {s s':St} {K:Prop} (h:StLq n0 s s' K): St.Le n0 s s'∧K:=by
 obtain ⟨h1,h2⟩:=heapLq_ok h
 obtain ⟨h3,h4⟩:=Asks.and h2
 obtain ⟨h5,h6⟩:=Tr.lq_ok _ _ _ h4
 simp only [Bool.and_eq_true] at h3
 exact ⟨St.le_of _ h1 (Nat.eq_of_beq_eq_true h3.1) h5 (natsBeq_ok h3.2),h6⟩
def ResLq (n0:Nat) (a:AV) (H:AH) (a':AV) (H':AH) (K:Prop): Prop :=
 heapLq n0 (labsOf n0 H H' (AV.pairs a a' [])) H H' (AV.lq (sig n0 (labsOf n0 H H' (AV.pairs a a' [])) H.n) a a' K)
theorem ResLq.ok {n0:Nat} {a a':AV} {H H':AH} {K:Prop} (h:ResLq n0 a H a' H' K): ResLe n0 a H a' H'∧K:=by
 obtain ⟨h1,h2⟩:=heapLq_ok h
 obtain ⟨h3,h4⟩:=AV.lq_ok _ _ _ h2
 exact ⟨ResLe.of _ h1 h3,h4⟩
inductive GE where
 | one (e:AExit)
 | cond (b:Bool) (x y:GE)
def GE.pick:GE→AExit
 | .one e=>e
 | .cond b x y=>match b with | true=>x.pick | false=>y.pick
def AExit.run {R:Type} (k:KS R): AExit→R
 | .n s=>k.n s
 | .x i s=>k.x i s
 | .g i s=>k.g i s
 | .r s=>k.r s
 | .p a s=>k.p a s
theorem AExit.run_sem {R:Type} {sem:R→Prop} {k:KS R} {e:AExit} (h:sem (e.run k)): e.sem sem k:=by cases e<;>exact h
def GE.run (k:KS Prop): GE→Prop
 | .one e=>e.run k
 | .cond b x y=>Cond b (x.run k) (y.run k)
theorem GE.run_sem {k:KS Prop}: ∀ {e:GE},e.run k→e.pick.sem id k
 | .one e,h=>AExit.run_sem (sem:=id) h
 | .cond b x y,h=>by
  cases b with
  | true=>exact GE.run_sem (e:=x) h
  | false=>exact GE.run_sem (e:=y) h
def codeLoop (key:Nat): Code→Option Code
 | .seq a b=>match codeLoop key a with | some c=>some c | none=>codeLoop key b
 | .cond _ a b=>match codeLoop key a with | some c=>some c | none=>codeLoop key b
 | .block _ c=>codeLoop key c
 | .scope c=>codeLoop key c
 | .rangeFunc _ _ a b=>match codeLoop key a with | some c=>some c | none=>codeLoop key b
 | .loop c=>bif Nat.beq (loopKey c) key then some c else codeLoop key c
 | _=>none
def loopOf (I:Info) (f:FuncId) (key:Nat): Code :=
 match I.body f with
 | some (c,_,_)=>match codeLoop key c with | some c=>c | none=> .skip
 | none=> .skip
def codeRange:Code→Option (List Tmp×Code×Code)
 | .seq a b=>match codeRange a with | some c=>some c | none=>codeRange b
 | .cond _ a b=>match codeRange a with | some c=>some c | none=>codeRange b
 | .block _ c=>codeRange c
 | .scope c=>codeRange c
 | .rangeFunc _ ps a b=>some (ps.toList,a,b)
 | .loop c=>codeRange c
 | _=>none
def rangeAs (I:Info) (f:FuncId): Code :=
 match I.body f with
 | some (c,_,_)=>match codeRange c with | some (_,a,_)=>a | none=> .skip
 | none=> .skip
def rangeBd (I:Info) (f:FuncId): Code :=
 match I.body f with
 | some (c,_,_)=>match codeRange c with | some (_,_,b)=>b | none=> .skip
 | none=> .skip
structure LoopAt (P:Program) (I:Info) (ir:Bool) (c:Code) (n0:Nat) (s:St) (g:GE): Prop where
 h : ∀ s0,s0.H.n=n0→St.Le n0 s0 s→TaskGives P I ir (.code (.loop c)) s0 g.pick
abbrev LTab:=List (Nat×Nat×St×GE)
def ltab (k:Nat): LTab→Option (Nat×St×GE)
 | []=>none
 | (a,b)::r=>bif Nat.beq a k then some b else ltab k r
def lamT (P:Program) (I:Info) (T:LTab): Loops Prop:=fun ir c s=>match ltab (loopKey c) T with
 | none=>none
 | some (n0,s',g)=>some fun k=>LoopAt P I ir c n0 s' g∧Asks (Nat.beq s.H.n n0) (StLq n0 s s' (g.run k))
theorem lamT_ok (P:Program) (I:Info) (T:LTab): LoopsOk P I id (lamT P I T):=by
 intro ir c s g h k hk
 unfold lamT at h
 split at h
 ·cases h
 ·cases h
  obtain ⟨h1,h2⟩:=hk
  obtain ⟨h0,h2⟩:=Asks.and h2
  obtain ⟨h3,h4⟩:=StLq.ok h2
  exact ⟨_,GE.run_sem h4,h1.h s (Nat.eq_of_beq_eq_true h0) h3⟩
structure Next {ι:Type} (n0:Nat) (J:ι→Prop) (S:ι→St) (E:ι→GE) (μ:ι→Nat) (i:ι) (s:St): Prop where
 h : ∃ j,J j∧μ j<μ i∧St.Le n0 s (S j)∧(E j).pick=(E i).pick
def exitLq (n0:Nat) (e:AExit) (g:AExit): Prop :=
 match e,g with
 | .n s,.n s'=>StLq n0 s s' True
 | .x i s,.x j s'=>Asks (Nat.beq i j) (StLq n0 s s' True)
 | .g i s,.g j s'=>Asks (Nat.beq i j) (StLq n0 s s' True)
 | .r s,.r s'=>StLq n0 s s' True
 | _,_=>False
theorem exitLq_ok {n0:Nat} {e g:AExit} (h:exitLq n0 e g): AExit.Le n0 e g:=by
 unfold exitLq at h
 split at h
 ·exact h.ok.1
 ·obtain ⟨h1,h2⟩:=Asks.and h;exact ⟨Nat.eq_of_beq_eq_true h1,h2.ok.1⟩
 ·obtain ⟨h1,h2⟩:=Asks.and h;exact ⟨Nat.eq_of_beq_eq_true h1,h2.ok.1⟩
 ·exact h.ok.1
 ·exact h.elim
def GE.meets (n0:Nat) (e:AExit): GE→Prop
 | .one g=>exitLq n0 e g
 | .cond b x y=>Cond b (x.meets n0 e) (y.meets n0 e)
theorem GE.meets_ok {n0:Nat} {e:AExit}: ∀ {g:GE},g.meets n0 e→AExit.Le n0 e g.pick
 | .one g,h=>exitLq_ok h
 | .cond b x y,h=>by
  cases b with
  | true=>exact GE.meets_ok (g:=x) h
  | false=>exact GE.meets_ok (g:=y) h
def nextK {ι:Type} (n0:Nat) (S:ι→St) (E:ι→GE) (nx:ι→ι) (Q:Prop) (i:ι): KS Prop :=
 {n:=fun s=>StLq n0 s (S (nx i)) Q
  x:=fun b s=>(E i).meets n0 (.x b s)
  g:=fun b s=>(E i).meets n0 (.g b s)
  r:=fun s=>(E i).meets n0 (.r s)
  p:=fun _ _=>False}
theorem LoopAt.of {P:Program} {I:Info} (hI:I.Ok P) (ks:List (Known P I)) {Λ:Loops Prop} (hΛ:LoopsOk P I id Λ) (fuel:Nat) {ι:Type} {c:Code} {ir:Bool} (n0:Nat) (J:ι→Prop) (S:ι→St) (E:ι→GE) (μ:ι→Nat) (nx:ι→ι) (i0:ι)
  (hI0:Nat.ble I.G n0=true) (hJ:J i0)
  (step : ∀ i,J i→krun ks Λ fuel ir (.code c) (S i) (nextK n0 S E nx (J (nx i)∧μ (nx i)<μ i∧(E (nx i)).pick=(E i).pick) i)): LoopAt P I ir c n0 (S i0) (E i0) where
 h s0 hn0 hs:=by
  subst hn0
  refine loop_gives (S:=S) (E:=fun i=>(E i).pick) (J:=J) μ (Nat.le_of_ble_eq_true hI0) hJ hs fun i hi=>?_
  obtain ⟨e,h1,h2⟩:=krun_ok hI ks hΛ fuel ir _ _ _ (step i hi)
  refine ⟨e,h2,?_⟩
  cases e with
  | n s=>
   obtain ⟨k1,k2,k3,k4⟩:=StLq.ok (K:=J (nx i)∧μ (nx i)<μ i∧(E (nx i)).pick=(E i).pick) h1
   exact ⟨nx i,k2,k3,k1,k4⟩
  | x b s=>exact GE.meets_ok (g:=E i) h1
  | g b s=>exact GE.meets_ok (g:=E i) h1
  | r s=>exact GE.meets_ok (g:=E i) h1
  | p a s=>exact (h1:False).elim
end Go.Sx
end
section
namespace Go.Sx
open Go
def AH.one (G:Nat) (b:ABlk): AH:={n:=G+1,t:=Tr.set .e G b}
end Go.Sx
end
