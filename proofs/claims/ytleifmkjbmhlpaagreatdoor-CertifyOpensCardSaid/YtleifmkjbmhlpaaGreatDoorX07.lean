/- CertifyOpens is proved, part 7. -/
import Derived.Test.YtleifmkjbmhlpaaGreatDoorX06
set_option linter.unusedVariables false
set_option linter.unusedSimpArgs false
set_option linter.unusedSectionVars false
section
namespace Go.Sx
open Go
section
variable {R:Type} {X:RI R} {sem:R→Prop} (hX:X.Ok sem) {I:Info} {P:Program} (hI:I.Ok P)
theorem wp_after {k:KS R} {s:St} {jump:Option Code} (h:sem (afterLoop X k s jump)) (hX:X.Ok sem): ∃ e:AExit,e.sem sem k∧
  ∀ ro n c ρ a w,SRel c ρ s a w→(match jump with | none=>e.post c ρ .normal a w | some j=>j.wpIn (WF ro) n P (e.post c ρ) a w):=by
 unfold afterLoop at h
 split at h
 ·exact ⟨.n s,h,fun ro n c ρ a w hr=>⟨ρ,Ext.refl ρ,hr⟩⟩
 ·exact ⟨.r s,h,fun ro n c ρ a w hr=>wpIn_ret ⟨ρ,Ext.refl ρ,hr⟩⟩
 ·rename_i i
  exact ⟨.x i s,h,fun ro n c ρ a w hr=>wpIn_exit ⟨rfl,ρ,Ext.refl ρ,hr⟩⟩
 ·rename_i i
  exact ⟨.g i s,h,fun ro n c ρ a w hr=>wpIn_goto ⟨rfl,ρ,Ext.refl ρ,hr⟩⟩
 ·exact absurd h hX.fail
include hX hI in
theorem stepRun_ok {Γ:FuncId→Option (Spec R)} (hΓ:SpecsOk P I sem Γ) {Λ:Loops R} (hΛ:LoopsOk P I sem Λ) {dr:Drawer R} (hdr:DrawerOk P I sem dr) {rec:Runner R} (hrec:RunOk P I sem rec): RunOk P I sem (stepRun X I Γ Λ dr rec):=by
 intro ir t s k h
 have hcall:CallerOk P I sem (callOf X I Γ rec):=callOf_ok hX hI hΓ hrec
 have hround:RounderOk P I sem (roundOf X rec):=roundOf_ok hX hrec
 have seq : ∀ {t1 t2:Task} {s:St},sem (rec ir t1 s {k with n:=fun s'=>rec ir t2 s' k})→
   ∃ e:AExit,e.sem sem k∧ ∀ ro n c ρ a w,(ir=false→ro=none)→c.G=I.G→SRel c ρ s a w→TaskWp (WF ro) n P t1 (Exit.then (TaskWp (WF ro) n P t2 (e.post c ρ)) (e.post c ρ)) a w:=by
  intro t1 t2 s h
  obtain ⟨e1,h1,h2⟩:=hrec _ _ _ _ h
  cases e1 with
  | n s1=>
   obtain ⟨e2,h3,h4⟩:=hrec _ _ _ _ h1
   refine ⟨e2,h3,fun ro n c ρ a w hro hG hr=>(h2 ro n c ρ a w hro hG hr).mono fun x a1 w1 hp=>?_⟩
   cases x with
   | normal=>
    obtain ⟨ρ1,hx,hr1⟩:=hp
    exact (h4 ro n c ρ1 a1 w1 hro hG hr1).mono fun x a2 w2 hp=>AExit.post_ext hx hp
   | _=>exact hp.elim
  | x i s1=>
   refine ⟨.x i s1,h1,fun ro n c ρ a w hro hG hr=>(h2 ro n c ρ a w hro hG hr).mono fun x a1 w1 hp=>?_⟩
   cases x with
   | exit id=>exact hp
   | _=>exact hp.elim
  | g i s1=>
   refine ⟨.g i s1,h1,fun ro n c ρ a w hro hG hr=>(h2 ro n c ρ a w hro hG hr).mono fun x a1 w1 hp=>?_⟩
   cases x with
   | goto id=>exact hp
   | _=>exact hp.elim
  | r s1=>
   refine ⟨.r s1,h1,fun ro n c ρ a w hro hG hr=>(h2 ro n c ρ a w hro hG hr).mono fun x a1 w1 hp=>?_⟩
   cases x with
   | ret=>exact hp
   | _=>exact hp.elim
  | p v s1=>
   refine ⟨.p v s1,h1,fun ro n c ρ a w hro hG hr=>(h2 ro n c ρ a w hro hG hr).mono fun x a1 w1 hp=>?_⟩
   cases x with
   | panic ch=>exact hp
   | _=>exact hp.elim
 unfold stepRun at h
 split at h
 ·
  rename_i c
  obtain ⟨e,h1,h2⟩:=seq h
  exact ⟨e,h1,fun ro n cx ρ a w hro hG hr=>wp_round _ (.inl rfl) (h2 ro n cx ρ a w hro hG hr)⟩
 ·
  rename_i r c
  obtain ⟨e1,h1,h2⟩:=hrec _ _ _ _ h
  cases e1 with
  | g l s1=>
   simp only [AExit.sem] at h1
   split at h1
   ·rename_i r' hf
    obtain ⟨e2,h3,h4⟩:=hrec _ _ _ _ h1
    refine ⟨e2,h3,fun ro n cx ρ a w hro hG hr=>wp_inScope ((h2 ro n cx ρ a w hro hG hr).mono fun x a1 w1 hp=>?_)⟩
    cases x with
    | goto m=>
     obtain ⟨rfl,ρ1,hx,hr1⟩:=hp
     simp only [scopePost,hf]
     exact (h4 ro n cx ρ1 a1 w1 hro hG hr1).mono fun x a2 w2 hp=>AExit.post_ext hx hp
    | _=>exact hp.elim
   ·rename_i hf
    refine ⟨.g l s1,h1,fun ro n cx ρ a w hro hG hr=>wp_inScope ((h2 ro n cx ρ a w hro hG hr).mono fun x a1 w1 hp=>?_)⟩
    cases x with
    | goto m=>
     have hp':=hp
     obtain ⟨rfl,_⟩:=hp'
     simp only [scopePost,hf]
     exact hp
    | _=>exact hp.elim
  | n s1=>
   refine ⟨.n s1,h1,fun ro n cx ρ a w hro hG hr=>wp_inScope ((h2 ro n cx ρ a w hro hG hr).mono fun x a1 w1 hp=>?_)⟩
   cases x<;>first | exact hp | exact hp.elim
  | x i s1=>
   refine ⟨.x i s1,h1,fun ro n cx ρ a w hro hG hr=>wp_inScope ((h2 ro n cx ρ a w hro hG hr).mono fun x a1 w1 hp=>?_)⟩
   cases x<;>first | exact hp | exact hp.elim
  | r s1=>
   refine ⟨.r s1,h1,fun ro n cx ρ a w hro hG hr=>wp_inScope ((h2 ro n cx ρ a w hro hG hr).mono fun x a1 w1 hp=>?_)⟩
   cases x<;>first | exact hp | exact hp.elim
  | p v s1=>
   refine ⟨.p v s1,h1,fun ro n cx ρ a w hro hG hr=>wp_inScope ((h2 ro n cx ρ a w hro hG hr).mono fun x a1 w1 hp=>?_)⟩
   cases x<;>first | exact hp | exact hp.elim
 ·rename_i c
  split at h
  ·exact ⟨.n s,h,fun ro n cx ρ a w hro hG hr=>wpIn_skip ⟨ρ,Ext.refl ρ,hr⟩⟩
  ·rename_i id ops
   obtain ⟨e,h1,h2⟩:=rops_region hX hI hcall hround h id
   exact ⟨e,h1,fun ro n cx ρ a w hro hG hr=>h2 ro n cx ρ a w hG hr⟩
  ·rename_i id ops
   obtain ⟨e,h1,h2⟩:=hdr _ _ hcall hround _ _ _ h
   exact ⟨e,h1,fun ro n cx ρ a w hro hG hr=>h2 ro n cx ρ a w id hG hr⟩
  ·obtain ⟨e,h1,h2⟩:=seq h
   exact ⟨e,h1,fun ro n cx ρ a w hro hG hr=>wpIn_seq (h2 ro n cx ρ a w hro hG hr)⟩
  ·rename_i cd x y
   split at h
   ·rename_i b hb
    have hc:=hX.cond _ _ _ h
    have hv : ∀ cx ρ a w,cx.G=I.G→SRel cx ρ s a w→a.eval cd= .bool b:=fun cx ρ a w hG hr=>by
     have:=hr.ev hG cd
     rw [hb] at this
     simpa only [VR] using this
    cases b with
    | true=>
     obtain ⟨e,h1,h2⟩:=hrec _ _ _ _ (by simpa using hc)
     exact ⟨e,h1,fun ro n cx ρ a w hro hG hr=>wpIn_cond_true (hv cx ρ a w hG hr) (h2 ro n cx ρ a w hro hG hr)⟩
    | false=>
     obtain ⟨e,h1,h2⟩:=hrec _ _ _ _ (by simpa using hc)
     exact ⟨e,h1,fun ro n cx ρ a w hro hG hr=>wpIn_cond_false (hv cx ρ a w hG hr) (h2 ro n cx ρ a w hro hG hr)⟩
   ·exact absurd h hX.fail
  ·rename_i id c
   obtain ⟨e1,h1,h2⟩:=hrec _ _ _ _ h
   cases e1 with
   | x i s1=>
    simp only [AExit.sem] at h1
    cases hi:Nat.beq i id with
    | true=>
     rw [hi] at h1
     have hi':=Nat.eq_of_beq_eq_true hi
     subst hi'
     refine ⟨.n s1,h1,fun ro n cx ρ a w hro hG hr=>wpIn_block (wpIn_mono (h2 ro n cx ρ a w hro hG hr) fun x a1 w1 hp=>?_)⟩
     cases x with
     | exit j=>
      obtain ⟨rfl,hp⟩:=hp
      simp only [Exit.inBlock,if_true]
      exact hp
     | _=>exact hp.elim
    | false=>
     rw [hi] at h1
     have hne : ¬ i=id:=fun e=>by subst e;have:Nat.beq i i=true:=Nat.beq_refl i;rw [this] at hi;cases hi
     refine ⟨.x i s1,h1,fun ro n cx ρ a w hro hG hr=>wpIn_block (wpIn_mono (h2 ro n cx ρ a w hro hG hr) fun x a1 w1 hp=>?_)⟩
     cases x with
     | exit j=>
      have hp':=hp
      obtain ⟨rfl,_⟩:=hp'
      simp only [Exit.inBlock,if_neg hne]
      exact hp
     | _=>exact hp.elim
   | n s1=>
    refine ⟨.n s1,h1,fun ro n cx ρ a w hro hG hr=>wpIn_block (wpIn_mono (h2 ro n cx ρ a w hro hG hr) fun x a1 w1 hp=>?_)⟩
    cases x<;>first | exact hp | exact hp.elim
   | g i s1=>
    refine ⟨.g i s1,h1,fun ro n cx ρ a w hro hG hr=>wpIn_block (wpIn_mono (h2 ro n cx ρ a w hro hG hr) fun x a1 w1 hp=>?_)⟩
    cases x<;>first | exact hp | exact hp.elim
   | r s1=>
    refine ⟨.r s1,h1,fun ro n cx ρ a w hro hG hr=>wpIn_block (wpIn_mono (h2 ro n cx ρ a w hro hG hr) fun x a1 w1 hp=>?_)⟩
    cases x<;>first | exact hp | exact hp.elim
   | p v s1=>
    refine ⟨.p v s1,h1,fun ro n cx ρ a w hro hG hr=>wpIn_block (wpIn_mono (h2 ro n cx ρ a w hro hG hr) fun x a1 w1 hp=>?_)⟩
    cases x<;>first | exact hp | exact hp.elim
  ·rename_i c
   split at h
   ·rename_i g hg
    exact hΛ _ _ _ _ hg _ h
   ·obtain ⟨e,h1,h2⟩:=seq h
    exact ⟨e,h1,fun ro n cx ρ a w hro hG hr=>wp_round _ (.inr rfl) (h2 ro n cx ρ a w hro hG hr)⟩
  ·rename_i f ps as bd
   split at h
   ·rename_i g first caps hev
    split at h
    ·rename_i hg
     obtain ⟨⟨cg,ng,rg⟩,hbody⟩:=Option.isSome_iff_exists.1 hg
     obtain ⟨fng,hfng,hbg,_,_,hname⟩:=hI.body g cg ng rg hbody
     have enter:=hname
     obtain ⟨o,h1,h2⟩:=hcall _ _ _ _ _ h
     have lay : ∀ cx ρ (a:Act) w,SRel cx ρ s a w→ ∀ fn,∃ ρ2 b N D M w2,Ext ρ ρ2∧ρ2 (s.H.n+1)=some (b,N)∧ρ2 s.H.n=some (D,M)∧
       Rel cx ρ2 ((s.H.new .dfr).new (.loop .ready none s.t s.nt ps.toList as bd s.H.n)) w2∧
       (Instr.enterLoop fn a.tmps ps as bd none).run P w= .ok (b,[{target:=.collected D,args := #[]}]) w2:=by
      intro cx ρ a w hr fn
      obtain ⟨hx1,hr1⟩:=hr.heap.new (.deferred (some [])) 0 .dfr fun w' hw'=>⟨_,_,rfl,hw'⟩
      obtain ⟨hx2,hr2⟩:=hr1.new (.loop {state:=.ready,pending:=none,fn:=fn,tmps:=a.tmps,params:=ps,assign:=as,body:=bd,defers:=w.heap.size}) 0 (.loop .ready none s.t s.nt ps.toList as bd s.H.n) fun w' hw'=>by
       refine ⟨_,_,w.heap.size,0,fn,a.tmps,rfl,?_,hr.tmp.ext (hx1.trans (Env.ext_put _ (hr1.top _ (Nat.le_refl _)))),by simpa using hw'⟩
       rw [Env.put_ne _ _ (by simp)]
       exact Env.put_same _ _ _
      refine ⟨_,_,0,w.heap.size,0,_,hx1.trans hx2,Env.put_same _ _ _,?_,hr2,?_⟩
      ·rw [Env.put_ne _ _ (by simp)]
       exact Env.put_same _ _ _
      ·rw [run_enterLoop_outer]
       simp only [World.alloc,Array.size_push]
     have rgo : ∀ e:AExit,(∀ n cx ρ (a:Act) (w1:World) ρ1 d N D M en,cx.G=I.G→Ext ρ ρ1→ρ1 (s.H.n+1)=some (d,N)→ρ1 s.H.n=some (D,M)→TmpR ρ1 s.t s.nt a.tmps→DfR ρ1 s.df a.defers→
       o.post cx ρ1 en w1→rangePost (WF none) n P d (e.post cx ρ) {a with defers:=[{target:=.collected D,args := #[]}]++a.defers} en w1)→
       ∀ ro n cx ρ a w,ro=none→cx.G=I.G→SRel cx ρ s a w→(Code.rangeFunc f ps as bd).wpIn (WF ro) n P (e.post cx ρ) a w:=by
      intro e hpost ro n cx ρ a w hro hG hr
      subst hro
      refine wpIn_rangeFunc fun fn _=>?_
      obtain ⟨ρ2,b,N,D,M,w2,hx,hb,hD,hr2,hrun⟩:=lay cx ρ a w hr fn
      have hv:=hr.ev hG f
      rw [hev] at hv
      simp only [VR] at hv
      obtain ⟨us,vs,hfv,hus,hvs⟩:=hv
      have hargs:VRs ρ2 (first++ .yield (s.H.n+1)::caps) (us++ .func (.yield b) #[] #[]::vs):=
       (VRs.ext hx _ _ hus).append (VRs.cons_iff.2 ⟨by simp only [VR];exact ⟨b,N,hb,rfl⟩,VRs.ext hx _ _ hvs⟩)
      have e1:us.toArray++ #[Value.func (.yield b) #[] #[]]++vs.toArray=(us++ .func (.yield b) #[] #[]::vs).toArray:=by apply Array.ext';simp
      refine ⟨b,_,w2,{target:=.fn (.func g) vs.toArray,args:=us.toArray++ #[.func (.yield b) #[] #[]]},w2,g,(us++ .func (.yield b) #[] #[]::vs).toArray,w2,hrun,?_,fun _ _=>trivial,?_,fun hh=>by simp [WF,Fence.wide] at hh,?_⟩
      ·have e2:Array.map a.eval #[Operand.const (Value.func (Fn.yield b) #[] #[])]= #[Value.func (.yield b) #[] #[]]:=by simp [Act.eval]
       simp only [resolve,hfv,Deferred.ofValue,Sem.run_pure,e2]
      ·simp only [invoke,e1,enter]
      ·rcases h2 cx ρ2 w2 _ hG hargs hr2 with ⟨_,k2⟩ | ⟨v,w',k1,_⟩
       ·refine CallsIn.mono (F:=WF none) (R:=o.post cx ρ2) ?_ fun en w' hp=>?_
        ·have goal:CallsIn Fence.wide (n-1) P g (us++ .func (.yield b) #[] #[]::vs).toArray w2 (o.post cx ρ2):=callsIn_wide.2 k2
         exact goal
        ·exact hpost n cx ρ a w' ρ2 b N D M en hG hx hb hD (hr.tmp.ext hx) (hr.df.ext hx) hp
       ·rw [enter] at k1;cases k1
     cases o with
     | ret v H'=>
      simp only [CO.sem] at h1
      have done : ∀ pd (st:LoopState) t nt ps' as' bd' df',H'.get (s.H.n+1)= .loop st pd t nt ps' as' bd' df'→st≠ .busy→sem (afterLoop X k {s with H:=H'.set (s.H.n+1) .dead,df:=s.H.n::s.df} pd)→
        ∃ e:AExit,e.sem sem k∧ ∀ ro n cx ρ a w,(false=false→ro=none)→cx.G=I.G→SRel cx ρ s a w→TaskWp (WF ro) n P (.code (.rangeFunc f ps as bd)) (e.post cx ρ) a w:=by
       intro pd st t nt ps' as' bd' df' hl hst h1
       obtain ⟨e,h3,h4⟩:=wp_after (P:=P) h1 hX
       refine ⟨e,h3,fun ro n cx ρ a w hro hG hr=>rgo e (fun n cx ρ a w1 ρ1 d N D M en hG hx hd hD ht hdf hp=>?_) ro n cx ρ a w (hro rfl) hG hr⟩
       cases en with
       | returned u=>
        obtain ⟨ρ2,hx2,hr2,hv⟩:=hp
        have hblk:=hr2.blk (s.H.n+1)
        rw [hl,hx2 _ _ hd] at hblk
        obtain ⟨b',N',dd,MM,fn,us,g1,g2,g3,g4⟩:=hblk
        cases g1
        have hend:=run_endLoop (P:=P) g4 hst
        have hr3:Rel cx ρ2 (H'.set (s.H.n+1) .dead) (w1.putObj d (.loop {state:=.exhausted,pending:=pd,fn:=fn,tmps:=us,params:=ps'.toArray,assign:=as',body:=bd',defers:=dd})):=
         hr2.turn .dead (by rw [hl];rfl) (hx2 _ _ hd) (fun k hk=>World.putObj_heap_other hk) World.putObj_size rfl rfl rfl trivial
        have hs3:SRel cx ρ2 {s with H:=H'.set (s.H.n+1) .dead,df:=s.H.n::s.df} {a with defers:=[{target:=.collected D,args := #[]}]++a.defers} _ :=
         ⟨ht.ext hx2,hr3,D,M,a.defers,hx2 _ _ hD,rfl,hdf.ext hx2⟩
        refine ⟨pd,_,hend,?_⟩
        have:=h4 none n cx ρ2 _ _ hs3
        cases pd with
        | none=>exact AExit.post_ext (hx.trans hx2) this
        | some j=>exact wpIn_mono this fun x a w hp=>AExit.post_ext (hx.trans hx2) hp
       | panicked ch=>exact hp.elim
       | outgrown=>exact hp.elim
      split at h1
      ·rename_i hl
       exact done _ _ _ _ _ _ _ _ hl (by simp) h1
      ·rename_i hl
       exact done _ _ _ _ _ _ _ _ hl (by simp) h1
      ·exact absurd h1 hX.fail
     | pan v H'=>
      refine ⟨.p v {s with H:=H',df:=s.H.n::s.df},h1,fun ro n cx ρ a w hro hG hr=>rgo _ (fun n cx ρ a w1 ρ1 d N D M en hG hx hd hD ht hdf hp=>?_) ro n cx ρ a w (hro rfl) hG hr⟩
      cases en with
      | panicked ch=>
       obtain ⟨ρ2,u,rfl,hx2,hr2,hv⟩:=hp
       exact ⟨ρ2,u,rfl,hx.trans hx2,⟨ht.ext hx2,hr2,D,M,a.defers,hx2 _ _ hD,rfl,hdf.ext hx2⟩,hv⟩
      | returned u=>exact hp.elim
      | outgrown=>exact hp.elim
    ·exact absurd h hX.fail
   ·exact absurd h hX.fail
  ·rename_i id
   exact ⟨.x id s,h,fun ro n cx ρ a w hro hG hr=>wpIn_exit ⟨rfl,ρ,Ext.refl ρ,hr⟩⟩
  ·rename_i c
   obtain ⟨e,h1,h2⟩:=hrec _ _ _ _ h
   exact ⟨e,h1,fun ro n cx ρ a w hro hG hr=>wp_scope (h2 ro n cx ρ a w hro hG hr)⟩
  ·exact ⟨.n s,h,fun ro n cx ρ a w hro hG hr=>wpIn_label ⟨ρ,Ext.refl ρ,hr⟩⟩
  ·rename_i l
   exact ⟨.g l s,h,fun ro n cx ρ a w hro hG hr=>wpIn_goto ⟨rfl,ρ,Ext.refl ρ,hr⟩⟩
  ·exact ⟨.r s,h,fun ro n cx ρ a w hro hG hr=>wpIn_ret ⟨ρ,Ext.refl ρ,hr⟩⟩
  ·exact absurd h hX.fail
include hX hI in
theorem run_ok {Γ:FuncId→Option (Spec R)} (hΓ:SpecsOk P I sem Γ) {Λ:Loops R} (hΛ:LoopsOk P I sem Λ) {dr:Drawer R} (hdr:DrawerOk P I sem dr): ∀ fuel,RunOk P I sem (run X I Γ Λ dr fuel)
 | 0=>fun _ _ _ _ h=>absurd h hX.fail
 | fuel+1=>stepRun_ok hX hI hΓ hΛ hdr (run_ok hΓ hΛ hdr fuel)
end
end Go.Sx
end
section
namespace Go.Sx
open Go
mutual
def AV.ren (σ:Nat→Nat): AV→AV
 | .ptr l k e j=> .ptr (σ l) k e j
 | .slice l b k len cap e=> .slice (σ l) b k len cap e
 | .own l len e=> .own (σ l) len e
 | .map (some l)=> .map (some (σ l))
 | .fn f a b=> .fn f (AVs.ren σ a) (AVs.ren σ b)
 | .yield l=> .yield (σ l)
 | .iface t a=> .iface t (a.ren σ)
 | .agg cs=> .agg (AVs.ren σ cs)
 | .tup cs=> .tup (AVs.ren σ cs)
 | .bool b=> .bool b
 | .int k n=> .int k n
 | .str s=> .str s
 | .nilPtr=> .nilPtr
 | .nilSlice=> .nilSlice
 | .map none=> .map none
 | .nilFn=> .nilFn
 | .nilIface=> .nilIface
 | .any=> .any
 | .fptr cs j=> .fptr cs j
 | .fslice len e f=> .fslice len e f
def AVs.ren (σ:Nat→Nat): List AV→List AV
 | []=>[]
 | a::as=>a.ren σ::AVs.ren σ as
end
structure RenR (σ:Nat→Nat) (ρ ρ':Env): Prop where
 lab : ∀ l x,ρ l=some x→ρ' (σ l)=some x
 fz : ∀ b vs,ρ.fz b=some vs→ρ'.fz b=some vs
instance {σ:Nat→Nat} {ρ ρ':Env}: CoeFun (RenR σ ρ ρ') (fun _=> ∀ l x,ρ l=some x→ρ' (σ l)=some x):=⟨RenR.lab⟩
theorem RenR.bare {σ:Nat→Nat} {ρ ρ':Env} (h:RenR σ ρ ρ'): Ext ρ.bare ρ'.bare:=⟨fun _ _ e=>(by cases e),h.fz⟩
mutual
theorem VR.ren {σ:Nat→Nat} {ρ ρ':Env} (h:RenR σ ρ ρ'): ∀ (a:AV) (v:Value),VR ρ a v→VR ρ' (a.ren σ) v
 | .bool _,_,k=>by simpa only [VR,AV.ren] using k
 | .int _ _,_,k=>by simpa only [VR,AV.ren] using k
 | .str _,_,k=>by simpa only [VR,AV.ren] using k
 | .nilPtr,_,k=>by simpa only [VR,AV.ren] using k
 | .ptr l _ _ _,v,k=>by
  simp only [VR,AV.ren] at k⊢
  obtain ⟨b,N,e,r⟩:=k
  exact ⟨b,N,h _ _ e,r⟩
 | .slice l _ _ _ _ _,v,k=>by
  simp only [VR,AV.ren] at k⊢
  obtain ⟨b,N,c,a,e,r⟩:=k
  exact ⟨b,N,c,a,h _ _ e,r⟩
 | .nilSlice,_,k=>by simpa only [VR,AV.ren] using k
 | .own l len e,v,k=>by
  simp only [VR,AV.ren] at k⊢
  rcases k with k | ⟨b,N,c,e,r⟩
  ·exact .inl k
  ·exact .inr ⟨b,N,c,h _ _ e,r⟩
 | .map none,_,k=>by simpa only [VR,AV.ren] using k
 | .map (some l),v,k=>by
  simp only [VR,AV.ren] at k⊢
  obtain ⟨b,N,e,r⟩:=k
  exact ⟨b,N,h _ _ e,r⟩
 | .fn f first caps,v,k=>by
  simp only [VR,AV.ren] at k⊢
  obtain ⟨us,vs,e,r,s⟩:=k
  exact ⟨us,vs,e,VRs.ren h first us r,VRs.ren h caps vs s⟩
 | .yield l,v,k=>by
  simp only [VR,AV.ren] at k⊢
  obtain ⟨b,N,e,r⟩:=k
  exact ⟨b,N,h _ _ e,r⟩
 | .nilFn,_,k=>by simpa only [VR,AV.ren] using k
 | .nilIface,_,k=>by simpa only [VR,AV.ren] using k
 | .iface t a,v,k=>by
  simp only [VR,AV.ren] at k⊢
  obtain ⟨u,e,r⟩:=k
  exact ⟨u,e,VR.ren h a u r⟩
 | .agg cs,v,k=>by
  simp only [VR,AV.ren] at k⊢
  obtain ⟨vs,e,r⟩:=k
  exact ⟨vs,e,VRs.ren h cs vs r⟩
 | .tup cs,v,k=>by
  simp only [VR,AV.ren] at k⊢
  obtain ⟨vs,e,r⟩:=k
  exact ⟨vs,e,VRs.ren h cs vs r⟩
 | .any,_,_=>by simp only [VR,AV.ren]
 | .fptr cs j,v,hk=>by
  simp only [VR,AV.ren] at hk⊢
  obtain ⟨b,q,vs,h1,h2,h3⟩:=hk
  exact ⟨b,q,vs,h1,h2.mono h.fz,VRs.ext h.bare _ _ h3⟩
 | .fslice len e f,v,hk=>by
  simp only [VR,AV.ren] at hk⊢
  rcases hk with hk | ⟨b,q,c,a,vss,h1,h2,h3⟩
  ·exact .inl hk
  ·exact .inr ⟨b,q,c,a,vss,h1,h2,fun hl=>⟨(h3 hl).1,(h3 hl).2.1.mono h.fz,fun i hi=>⟨((h3 hl).2.2 i hi).1,VRs.ext h.bare _ _ ((h3 hl).2.2 i hi).2⟩⟩⟩
theorem VRs.ren {σ:Nat→Nat} {ρ ρ':Env} (h:RenR σ ρ ρ'): ∀ (as:List AV) (vs:List Value),VRs ρ as vs→VRs ρ' (AVs.ren σ as) vs
 | [],_,k=>by simpa only [VRs,AVs.ren] using k
 | a::as,vs,k=>by
  simp only [VRs,AVs.ren] at k⊢
  obtain ⟨u,us,e,r,s⟩:=k
  exact ⟨u,us,e,VR.ren h a u r,VRs.ren h as us s⟩
end
theorem AVs.ren_eq (σ:Nat→Nat): ∀ as:List AV,AVs.ren σ as=as.map (AV.ren σ)
 | []=>by simp [AVs.ren]
 | a::as=>by simp [AVs.ren,AVs.ren_eq σ as]
def Tr.map {α β:Type} (f:α→β): Tr α→Tr β
 | .e=> .e
 | .n l v r=> .n (l.map f) (match v with | some x=>some (f x) | none=>none) (r.map f)
theorem Tr.get_map {α β:Type} (f:α→β): ∀ (t:Tr α) (i:Nat),(t.map f).get i=(t.get i).map f
 | .e,i=>rfl
 | .n l v r,i=>by
  simp only [Tr.map,Tr.get]
  cases Nat.beq i 0
  ·cases Nat.beq (i%2) 1
   ·simp only [cond_false];exact Tr.get_map f r _
   ·simp only [cond_true,cond_false];exact Tr.get_map f l _
  ·cases v<;>rfl
def ABlk.ren (σ:Nat→Nat): ABlk→ABlk
 | .cells cs rw=> .cells (AVs.ren σ cs) rw
 | .rows n e f rw=> .rows n e (fun i=>AVs.ren σ (f i)) rw
 | .str s rw=> .str s rw
 | .map es=> .map (es.map fun x=>(x.1.ren σ,x.2.ren σ))
 | .loop st pd t nt ps as bd df=> .loop st pd (t.map (AV.ren σ)) nt ps as bd (σ df)
 | .dfr=> .dfr
 | .iter l=> .iter (σ l)
 | .iset n K=> .iset n K
 | .iwalk l since S=> .iwalk (σ l) since S
 | .dead=> .dead
theorem isMark_ren (σ:Nat→Nat) (es:List (AV×AV)): isMark (es.map fun x=>(x.1.ren σ,x.2.ren σ))=isMark es:=by
 cases es with
 | nil=>rfl
 | cons e es=>
  obtain ⟨a,b⟩:=e
  cases a<;>first | rfl | (rename_i x;cases x<;>rfl)
theorem unmark_ren (σ:Nat→Nat) (es:List (AV×AV)): unmark (es.map fun x=>(x.1.ren σ,x.2.ren σ))=(unmark es).map fun x=>(x.1.ren σ,x.2.ren σ):=by
 cases es with
 | nil=>rfl
 | cons e es=>
  obtain ⟨a,b⟩:=e
  cases a<;>first | rfl | (rename_i x;cases x<;>rfl)
theorem ABlk.ren_rw (σ:Nat→Nat) (b:ABlk): (b.ren σ).rw=b.rw:=by
 cases b with
 | map es=>show (!isMark (es.map fun x=>(x.1.ren σ,x.2.ren σ)))=!isMark es;rw [isMark_ren]
 | _=>rfl
theorem ABlk.ren_dead {σ:Nat→Nat} {b:ABlk}: b.ren σ= .dead↔b= .dead:=by cases b<;>simp [ABlk.ren]
theorem CellsRel.ren {σ:Nat→Nat} {ρ ρ':Env} (h:RenR σ ρ ρ') {w:World} {o:Option (Nat×Nat)} {cs:List AV} {rw:Access} (k:CellsRel ρ w o cs rw): CellsRel ρ' w o (AVs.ren σ cs) rw:=by
 rcases k with ⟨rfl,k⟩ | ⟨b,N,vs,rest,el,fr,h1,h2,h3,h4,h5⟩
 ·exact .inl ⟨by simp [AVs.ren],k⟩
 ·exact .inr ⟨b,N,vs,rest,el,fr,h1,h2,h3,VRs.ren h _ _ h4,h5.1,h5.2.1,fun e=>h.fz _ _ (h5.2.2 e)⟩
theorem byteCells_ren (σ:Nat→Nat) (s:List UInt8): AVs.ren σ (byteCells s)=byteCells s:=by
 rw [AVs.ren_eq];simp [byteCells,AV.ren,Function.comp_def]
theorem BlkRel.ren {σ:Nat→Nat} {ρ ρ':Env} (h:RenR σ ρ ρ') {w:World} {o:Option (Nat×Nat)} {b:ABlk} (k:BlkRel ρ w o b): BlkRel ρ' w o (b.ren σ):=by
 cases b with
 | cells cs rw=>exact CellsRel.ren h k
 | rows n e f rw=>
  refine ⟨fun i hi=>by simp only [AVs.ren_eq,List.length_map];exact k.1 i hi,?_⟩
  have:=CellsRel.ren h k.2
  have e1:AVs.ren σ (rowsOf n f)=rowsOf n (fun i=>AVs.ren σ (f i)):=by
   simp only [AVs.ren_eq,rowsOf,List.map_flatMap]
  rw [e1] at this
  exact this
 | str s rw=>have:=CellsRel.ren h (cs:=byteCells s) k;rw [byteCells_ren] at this;exact this
 | map es=>
  obtain ⟨b,N,ms,clock,h1,h2,⟨ms',h3,h4,h5,h6⟩,h7⟩:=k
  refine ⟨b,N,ms,clock,h1,h2,⟨ms',?_,?_,by rw [isMark_ren];exact h5,h6⟩,fun e=>h7 (by simpa using e)⟩
  ·have:=VRs.ren h _ _ h3
   rw [unmark_ren]
   simpa [AVs.ren_eq,Function.comp_def] using this
  ·have:=VRs.ren h _ _ h4
   rw [unmark_ren]
   simpa [AVs.ren_eq,Function.comp_def] using this
 | loop st pd t nt ps as bd df=>
  obtain ⟨b,N,d,M,fn,vs,h1,h2,h3,h4⟩:=k
  refine ⟨b,N,d,M,fn,vs,h1,h _ _ h2,⟨h3.1,fun i=>?_⟩,h4⟩
  have:=VR.ren h _ _ (h3.2 i)
  unfold tget at this⊢
  rw [Tr.get_map]
  cases ht:t.get i with
  | none=>simp [VR]
  | some a=>rw [ht] at this;simpa using this
 | dfr=>exact k
 | iter l=>
  obtain ⟨b,N,m,M,since,last,h1,h2,h3⟩:=k
  exact ⟨b,N,m,M,since,last,h1,h _ _ h2,h3⟩
 | iset n K=>exact k
 | iwalk l since S=>
  obtain ⟨b,N,m,M,h1,h2,h3⟩:=k
  exact ⟨b,N,m,M,h1,h _ _ h2,h3⟩
 | dead=>trivial
def AH.blank (N:Nat): AH:={n:=N,t:=.e}
def AH.up (H:AH) (N:Nat): AH:={n:=N,t:=H.t}
theorem Rel.up {c:Ctx} {ρ:Env} {H:AH} {w:World} (h:Rel c ρ H w) {N:Nat} (hN:H.n≤N): Rel c ρ (H.up N) w :=
 ⟨h.blk,h.sep,h.prot,h.keep,h.size,h.os,h.output,h.tape,fun l hl=>h.top l (Nat.le_trans hN hl),h.glob,h.hid,fun l hl=>⟨Nat.lt_of_lt_of_le (h.env l hl).1 hN,(h.env l hl).2⟩,fun l hl=>h.low l (Nat.le_trans hN hl),h.fro,h.frw,h.frx,h.frk⟩
def Ctx.blank (c:Ctx) (ρ:Env) (H:AH) (w:World) (N:Nat): Ctx:=c.mask ρ (H.up N) w fun _=>True
theorem Rel.blank {c:Ctx} {ρ:Env} {H:AH} {w:World} (h:Rel c ρ H w) {N:Nat} (hN:H.n≤N): Rel (c.blank ρ H w N) ρ (.blank N) w :=
 (h.up hN).mask (HM:=.blank N) rfl fun _=> .inl ⟨trivial,rfl⟩
theorem Rel.light0 {c:Ctx} {ρ ρ':Env} {H H':AH} {w w':World} (h:Rel c ρ H w) {N:Nat} (hN:H.n≤N) (h':Rel (c.blank ρ H w N) ρ' H' w') (hn:H'.n=N): Ext ρ ρ'∧Rel c ρ' H w':=by
 obtain ⟨h1,h2⟩:=(h.up hN).unmask (H2:=H.up N) h' hn.symm fun _=> .inl ⟨trivial,rfl⟩
 refine ⟨h1,⟨h2.blk,h2.sep,h2.prot,h2.keep,h2.size,h2.os,h2.output,h2.tape,fun l hl=>?_,h2.glob,h2.hid,fun l hl=>?_,h.low,h2.fro,h2.frw,h2.frx,h2.frk⟩⟩
 ·by_cases hlt:l<N
  ·rw [(h'.env l hlt).2];exact h.top l hl
  ·exact h2.top l (Nat.le_of_not_lt hlt)
 ·obtain ⟨e1,e2⟩:=h.env l hl
  exact ⟨e1,(h2.env l hl).2⟩
def toLab (N ℓ:Nat) (i:Nat): Nat:=bif Nat.beq i N then ℓ else i
theorem toLab_same (N ℓ:Nat): toLab N ℓ N=ℓ:=by simp [toLab]
theorem toLab_ne {N ℓ i:Nat} (h:i≠N): toLab N ℓ i=i:=by
 have:Nat.beq i N=false:=by rw [Bool.eq_false_iff];intro e;exact h (Nat.eq_of_beq_eq_true e)
 simp [toLab,this]
theorem Rel.light1 {c:Ctx} {ρ ρ':Env} {H H':AH} {w w':World} (h:Rel c ρ H w) {N:Nat} (hN:H.n≤N) (h':Rel (c.blank ρ H w N) ρ' H' w') (hn:H'.n=N+1) {ℓ:Nat} (hℓ:ℓ<H.n) (hd:H.get ℓ= .dead) (hr:ρ ℓ=none) (hE : ¬ c.E ℓ):
  ∃ ρ2,(∀ l,l≠ℓ→ρ2 l=ρ l)∧Ext ρ ρ2∧RenR (toLab N ℓ) ρ' ρ2∧Rel c ρ2 (H.set ℓ ((H'.get N).ren (toLab N ℓ))) w':=by
 have rw_dead : ∀ {b:ABlk},b.rw=true→b≠ .dead:=fun h e=>by rw [e] at h;cases h
 obtain ⟨ρ2,hρ2⟩: ∃ ρ2:Env,ρ2=⟨fun i=>if i=ℓ then ρ' N else ρ i,ρ'.fz⟩:=⟨_,rfl⟩
 have fz_:ρ2.fz=ρ'.fz:=by rw [hρ2]
 have at_:ρ2 ℓ=ρ' N:=by rw [hρ2];simp
 have off : ∀ l,l≠ℓ→ρ2 l=ρ l:=fun l hl=>by rw [hρ2];simp [hl]
 have hx:Ext ρ ρ2:=by
  refine ⟨fun l x e=>?_,fun k vs e=>by rw [fz_];exact h'.frk k vs e⟩
  have:l≠ℓ:=fun e'=>by rw [e',hr] at e;cases e
  rw [off l this];exact e
 have hren:RenR (toLab N ℓ) ρ' ρ2:=by
  refine ⟨fun l x e=>?_,fun k vs e=>by rw [fz_];exact e⟩
  by_cases h1:l=N
  ·subst h1;rw [toLab_same,at_];exact e
  ·rw [toLab_ne h1]
   have hlt:l<N:=by
    refine Nat.lt_of_not_le fun hle=>?_
    have:ρ' l=none:=h'.top l (by omega)
    rw [this] at e;cases e
   have he:=(h'.env l hlt).2
   have:l≠ℓ:=fun e'=>by
    subst e'
    rw [he] at e
    change ρ l=some x at e
    rw [hr] at e;cases e
   rw [off l this,←e]
   exact he.symm
 have zone : ∀ l r M,H.get l≠ .dead→ρ l=some (r,M)→(c.blank ρ H w N).Z r∨(c.blank ρ H w N).X r:=fun l r M hd h1=>by
  cases hrw:(H.get l).rw with
  | true=>exact .inr (.inr ⟨l,M,trivial,hrw,h1⟩)
  | false=>exact .inl (.inr ⟨l,M,trivial,hd,hrw,h1⟩)
 have gl : ∀ l,l≠ℓ→(H.set ℓ ((H'.get N).ren (toLab N ℓ))).get l=H.get l:=fun l hl=>AH.get_set_ne _ _ (fun e=>hl e.symm)
 have gs:(H.set ℓ ((H'.get N).ren (toLab N ℓ))).get ℓ=(H'.get N).ren (toLab N ℓ):=AH.get_set_same _ _ _
 have hs2:w.heap.size≤w'.heap.size:=h'.size
 refine ⟨ρ2,off,hx,hren,fun l=>?_,fun l l' r M M' hne hrw h1 h2=>?_,fun l r M hrw h1 hz=>?_,fun k hk=>?_,Nat.le_trans h.size hs2,h'.os.trans h.os,h'.output.trans h.output,h'.tape.trans h.tape,fun l hl=>?_,fun g hg=>?_,fun l r M hd' h1 hz=>?_,fun l hl=>?_,fun l hl=>?_,fun k vs e=>h'.fro k vs (by rw [←fz_];exact e),fun l r M hrw h1=>?_,fun k hk=>by rw [fz_];exact h'.frx k (.inl hk),fun k vs e=>by rw [fz_];exact h'.frk k vs (h.frk k vs e)⟩
 ·by_cases e:l=ℓ
  ·subst e;rw [gs,at_];exact BlkRel.ren hren (h'.blk N)
  ·rw [gl l e,off l e]
   by_cases hd':H.get l= .dead
   ·rw [hd'];trivial
   ·exact BlkRel.world (fun r M e=>(h'.keep r (zone l r M hd' e)).2) ((h.blk l).ext hx)
 ·by_cases e:l=ℓ
  ·subst e
   have hne':l'≠l:=fun e=>hne e.symm
   rw [gs,ABlk.ren_rw] at hrw
   rw [at_] at h1
   rw [off l' hne'] at h2
   rw [gl l' hne']
   apply Classical.byContradiction
   intro hd'
   rcases zone l' r M' hd' h2 with hz | hz
   ·exact h'.prot N r M hrw h1 hz
   ·exact h'.hid N r M (rw_dead hrw) h1 hz
  ·rw [gl l e] at hrw
   rw [off l e] at h1
   by_cases e':l'=ℓ
   ·subst e'
    rw [gs]
    rw [at_] at h2
    apply Classical.byContradiction
    intro hd'
    exact h'.hid N r M' (fun e=>hd' (by rw [e];rfl)) h2 (.inr ⟨l,M,trivial,hrw,h1⟩)
   ·rw [off l' e'] at h2
    rw [gl l' e']
    exact h.sep l l' r M M' hne hrw h1 h2
 ·by_cases e:l=ℓ
  ·subst e
   rw [gs,ABlk.ren_rw] at hrw
   rw [at_] at h1
   exact h'.prot N r M hrw h1 (.inl hz)
  ·rw [gl l e] at hrw
   rw [off l e] at h1
   exact h.prot l r M hrw h1 hz
 ·obtain ⟨h1,h2⟩:=h.keep k hk
  exact ⟨h1,((h'.keep k (hk.imp .inl .inl)).2).trans h2⟩
 ·have hl':H.n≤l:=hl
  rw [off l (by omega)];exact h.top l hl'
 ·obtain ⟨M,hM⟩:=h.glob g hg
  exact ⟨M,hx _ _ hM⟩
 ·by_cases e:l=ℓ
  ·subst e
   rw [gs] at hd'
   rw [at_] at h1
   exact h'.hid N r M (fun e=>hd' (by rw [e];rfl)) h1 (.inl hz)
  ·rw [gl l e] at hd'
   rw [off l e] at h1
   exact h.hid l r M hd' h1 hz
 ·obtain ⟨e1,e2⟩:=h.env l hl
  have:l≠ℓ:=fun e=>hE (e▸hl)
  exact ⟨e1,by rw [off l this];exact e2⟩
 ·have hl':H.n≤l:=hl
  rw [gl l (by omega)];exact h.low l hl'
 ·rw [fz_]
  by_cases e:l=ℓ
  ·subst e
   rw [gs,ABlk.ren_rw] at hrw
   rw [at_] at h1
   exact h'.frw N r M hrw h1
  ·rw [gl l e] at hrw
   rw [off l e] at h1
   exact h'.frx r (.inr ⟨l,M,trivial,hrw,h1⟩)
end Go.Sx
end
section
namespace Go.Sx
open Go
mutual
def AV.beq:AV→AV→Bool
 | .bool a,.bool b=>a==b
 | .int k x,.int k' y=>decide (k=k')&&decide (x=y)
 | .str s,.str t=>decide (s=t)
 | .ptr a b c d,.ptr a' b' c' d'=>decide (a=a')&&decide (b=b')&&decide (c=c')&&decide (d=d')
 | .nilPtr,.nilPtr=>true
 | .slice a b c d e f,.slice a' b' c' d' e' f'=>decide (a=a')&&decide (b=b')&&decide (c=c')&&decide (d=d')&&decide (e=e')&&decide (f=f')
 | .nilSlice,.nilSlice=>true
 | .own a b c,.own a' b' c'=>decide (a=a')&&decide (b=b')&&decide (c=c')
 | .map a,.map b=>decide (a=b)
 | .fn f a b,.fn f' a' b'=>decide (f=f')&&AVs.beq a a'&&AVs.beq b b'
 | .yield a,.yield b=>decide (a=b)
 | .nilFn,.nilFn=>true
 | .nilIface,.nilIface=>true
 | .iface t a,.iface t' a'=>decide (t=t')&&a.beq a'
 | .agg a,.agg b=>AVs.beq a b
 | .tup a,.tup b=>AVs.beq a b
 | .any,.any=>true
 | .fptr cs j,.fptr cs' j'=>AVs.beq cs cs'&&decide (j=j')
 | .fslice n e f,.fslice n' e' f'=>decide (n=n')&&decide (e=e')&&(List.range n).all fun i=>AVs.beq (f i) (f' i)
 | _,_=>false
def AVs.beq:List AV→List AV→Bool
 | [],[]=>true
 | a::as,b::bs=>a.beq b&&AVs.beq as bs
 | _,_=>false
end
mutual
theorem AV.vr_of_beq {ρ:Env}: ∀ (a b:AV) (v:Value),a.beq b=true→VR ρ b v→VR ρ a v
 | .fn f x y,b,v,h,hb=>by
  cases b<;>simp only [AV.beq,Bool.false_eq_true,Bool.and_eq_true,decide_eq_true_eq] at h
  obtain ⟨⟨rfl,h1⟩,h2⟩:=h
  simp only [VR] at hb⊢
  obtain ⟨us,vs,rfl,h3,h4⟩:=hb
  exact ⟨us,vs,rfl,AVs.vr_of_beq x _ _ h1 h3,AVs.vr_of_beq y _ _ h2 h4⟩
 | .iface t a,b,v,h,hb=>by
  cases b<;>simp only [AV.beq,Bool.false_eq_true,Bool.and_eq_true,decide_eq_true_eq] at h
  obtain ⟨rfl,h1⟩:=h
  simp only [VR] at hb⊢
  obtain ⟨u,rfl,h3⟩:=hb
  exact ⟨u,rfl,AV.vr_of_beq a _ _ h1 h3⟩
 | .agg as,b,v,h,hb=>by
  cases b<;>simp only [AV.beq,Bool.false_eq_true] at h
  simp only [VR] at hb⊢
  obtain ⟨us,rfl,h3⟩:=hb
  exact ⟨us,rfl,AVs.vr_of_beq as _ _ h h3⟩
 | .tup as,b,v,h,hb=>by
  cases b<;>simp only [AV.beq,Bool.false_eq_true] at h
  simp only [VR] at hb⊢
  obtain ⟨us,rfl,h3⟩:=hb
  exact ⟨us,rfl,AVs.vr_of_beq as _ _ h h3⟩
 | .fptr cs j,b,v,h,hb=>by
  cases b<;>simp only [AV.beq,Bool.false_eq_true,Bool.and_eq_true,decide_eq_true_eq] at h
  obtain ⟨h1,rfl⟩:=h
  simp only [VR] at hb⊢
  obtain ⟨b,q,vs,rfl,h3,h4⟩:=hb
  exact ⟨b,q,vs,rfl,h3,AVs.vr_of_beq cs _ _ h1 h4⟩
 | .fslice n e f,b,v,h,hb=>by
  cases b<;>simp only [AV.beq,Bool.false_eq_true,Bool.and_eq_true,decide_eq_true_eq,List.all_eq_true] at h
  obtain ⟨⟨rfl,rfl⟩,h1⟩:=h
  simp only [VR] at hb⊢
  rcases hb with hb | ⟨b,q,c,a,vss,rfl,h2,h3⟩
  ·exact .inl hb
  ·exact .inr ⟨b,q,c,a,vss,rfl,h2,fun hl=>⟨(h3 hl).1,(h3 hl).2.1,fun i hi=>⟨((h3 hl).2.2 i hi).1,AVs.vr_of_beq (f i) _ _ (h1 i (List.mem_range.2 hi)) ((h3 hl).2.2 i hi).2⟩⟩⟩
 | .bool _,b,v,h,hb=>by cases b<;>simp only [AV.beq,Bool.false_eq_true,Bool.and_eq_true,decide_eq_true_eq,beq_iff_eq] at h<;>simp_all
 | .int _ _,b,v,h,hb=>by cases b<;>simp only [AV.beq,Bool.false_eq_true,Bool.and_eq_true,decide_eq_true_eq,beq_iff_eq] at h<;>simp_all
 | .str _,b,v,h,hb=>by cases b<;>simp only [AV.beq,Bool.false_eq_true,Bool.and_eq_true,decide_eq_true_eq,beq_iff_eq] at h<;>simp_all
 | .ptr _ _ _ _,b,v,h,hb=>by cases b<;>simp only [AV.beq,Bool.false_eq_true,Bool.and_eq_true,decide_eq_true_eq,beq_iff_eq] at h<;>simp_all
 | .nilPtr,b,v,h,hb=>by cases b<;>simp only [AV.beq,Bool.false_eq_true,Bool.and_eq_true,decide_eq_true_eq,beq_iff_eq] at h<;>simp_all
 | .slice _ _ _ _ _ _,b,v,h,hb=>by cases b<;>simp only [AV.beq,Bool.false_eq_true,Bool.and_eq_true,decide_eq_true_eq,beq_iff_eq] at h<;>simp_all
 | .nilSlice,b,v,h,hb=>by cases b<;>simp only [AV.beq,Bool.false_eq_true,Bool.and_eq_true,decide_eq_true_eq,beq_iff_eq] at h<;>simp_all
 | .own _ _ _,b,v,h,hb=>by cases b<;>simp only [AV.beq,Bool.false_eq_true,Bool.and_eq_true,decide_eq_true_eq,beq_iff_eq] at h<;>simp_all
 | .map _,b,v,h,hb=>by cases b<;>simp only [AV.beq,Bool.false_eq_true,Bool.and_eq_true,decide_eq_true_eq,beq_iff_eq] at h<;>simp_all
 | .yield _,b,v,h,hb=>by cases b<;>simp only [AV.beq,Bool.false_eq_true,Bool.and_eq_true,decide_eq_true_eq,beq_iff_eq] at h<;>simp_all
 | .nilFn,b,v,h,hb=>by cases b<;>simp only [AV.beq,Bool.false_eq_true,Bool.and_eq_true,decide_eq_true_eq,beq_iff_eq] at h<;>simp_all
 | .nilIface,b,v,h,hb=>by cases b<;>simp only [AV.beq,Bool.false_eq_true,Bool.and_eq_true,decide_eq_true_eq,beq_iff_eq] at h<;>simp_all
 | .any,b,v,h,hb=>by cases b<;>simp only [AV.beq,Bool.false_eq_true,Bool.and_eq_true,decide_eq_true_eq,beq_iff_eq] at h<;>simp_all
theorem AVs.vr_of_beq {ρ:Env}: ∀ (a b:List AV) (vs:List Value),AVs.beq a b=true→VRs ρ b vs→VRs ρ a vs
 | [],[],_,_,h=>h
 | a::as,b::bs,vs,h,hb=>by
  simp only [AVs.beq,Bool.and_eq_true] at h
  simp only [VRs] at hb⊢
  obtain ⟨u,us,rfl,h1,h2⟩:=hb
  exact ⟨u,us,rfl,AV.vr_of_beq _ _ _ h.1 h1,AVs.vr_of_beq _ _ _ h.2 h2⟩
 | [],_::_,_,h,_=>by simp [AVs.beq] at h
 | _::_,[],_,h,_=>by simp [AVs.beq] at h
end
section
variable {R:Type} (X:RI R) (I:Info)
def ard (o:Oper) (ev:Operand→AV) (H:AH) (K:AV→R): R :=
 match o.op with
 | .load t a=>aload X I t H (ev a) K
 | .slice t x lo hi mx=>aslice X I t (ev x) (lo.map ev) (hi.map ev) (mx.map ev) H K
 | .lookup t x i ok=>alookup X I t (ev x) (ev i) ok H K
 | .convert s d x=>match I.und s,I.und d with
  | some (.slice e),some .string=>aconvR X I e (ev x) H K
  | _,_=>X.fail
 | .call {callee:=.builtin .len,args,argTypes}=>match args.toList,argTypes.toList with
  | [x],[t]=>alen X I t (ev x) H K
  | _,_=>X.fail
 | _=>X.fail
def ReadFact (P:Program) (o:Oper) (ev:Operand→AV) (M:AH) (v:AV): Prop :=
 (∀ c,o.op≠ .defer c)∧ ∀ c ρ w (e:Operand→Value),(∀ x,VR ρ (ev x) (e x))→Rel c ρ M w→ ∃ u,(execOp e o).run P w= .ok (.value u) w∧VR ρ v u
inductive Cls where
 | heavy | reader | light
def cls (o:Oper): Cls :=
 match o.op with
 | .load .. | .slice .. | .lookup .. => .reader
 | .convert s _ _=>match I.und s with
  | some (.slice _)=> .reader
  | _=> .light
 | .store .. | .mapUpdate .. | .insert .. | .panic _=> .heavy
 | .call c=>match c.callee with
  | .builtin .len=> .reader
  | .builtin .min | .builtin .max=> .light
  | _=> .heavy
 | _=> .light
def mayNew (o:Oper): Bool :=
 match o.op with
 | .alloc _ | .box .. | .buildSlice .. | .makeMap .. | .makeSlice .. | .convert .. =>true
 | _=>false
def forceN {α:Type} (n:Nat) (K:Nat→α): α:=match n with | 0=>K 0 | m+1=>K (m+1)
theorem forceN_eq {α:Type} (n:Nat) (K:Nat→α): forceN n K=K n:=by cases n<;>rfl
structure PM where
 n:Nat
 l:List Nat
def PM.at (p:PM) (j:Nat): Nat:=p.l.getD (p.n-1-j) 0
def PM.pre (p:PM) (i j:Nat): Bool:=(p.at j).testBit i
def edgeMask (p:PM) (es:List Edge): Nat:=es.foldl (fun s e=>bif Region.binds .any e then s ||| 2^e.on ||| p.at e.on else s) 0
def PM.of:List Oper→PM→PM
 | [],p=>p
 | o::os,p=>forceN (edgeMask p o.after.toList) fun m=>PM.of os {n:=p.n+1,l:=m::p.l}
def opTmps (o:Oper): List Tmp:=o.op.operands.toList.filterMap (fun | .tmp t=>some t | _=>none)
def memN:List Nat→Nat→Bool
 | [],_=>false
 | a::as,x=>bif Nat.beq a x then true else memN as x
theorem memN_iff : ∀ {l:List Nat} {x:Nat},memN l x=true↔x∈l
 | [],x=>by simp [memN]
 | a::as,x=>by
  simp only [memN]
  cases h:Nat.beq a x with
  | true=>have:=Nat.eq_of_beq_eq_true h;subst this;simp
  | false=>
   have hne : ¬ x=a:=fun e=>by subst e;rw [Nat.beq_refl] at h;cases h
   simp only [cond_false,List.mem_cons,hne,false_or]
   exact memN_iff
def St.evOf (G:Nat) (s:St) (o:Oper): Operand→AV
 | .tmp i=>bif memN (opTmps o) i then tget s.t i else .any
 | x=>s.ev G x
def namesOf (ops:Array Oper) (o:Oper): List Tmp :=
 o.dst.toList++opTmps o++(match o.guard with | some (j,_)=>(match (ops[j]?).bind (·.dst) with | some d=>[d] | none=>[]) | none=>[])
def isHeavy (o:Oper): Bool:=match cls I o with | .heavy=>true | _=>false
def planOk (ops : Array Oper) (p : PM) : Bool :=
  (ops.toList.zipIdx.all fun x => x.1.after.toList.all fun e => !Region.binds .any e || Nat.blt e.on x.2) &&
  (ops.toList.zipIdx.all fun x => ops.toList.zipIdx.all fun y =>
    !Nat.blt y.2 x.2 ||
      ((!(isHeavy I x.1 && isHeavy I y.1) || p.pre y.2 x.2) &&
       ((match y.1.dst with | some d => !(namesOf ops x.1).contains d | none => true) || p.pre y.2 x.2) &&
       ((match x.1.dst with | some d => !(namesOf ops y.1).contains d | none => true) || p.pre y.2 x.2)))
inductive Out where
 | skip
 | pure (v:AV)
 | fresh (v:AV) (b:ABlk)
 | read (v:AV)
 | heavy (v:AV) (H:AH)
structure Ent where
 ix:Nat
 o:Oper
 s:St
 out:Out
def Ent.next (n0:Nat) (e:Ent): St :=
 match e.out with
 | .skip=>e.s.put e.o.dst (.tup [])
 | .pure v=>e.s.put e.o.dst v
 | .read v=>e.s.put e.o.dst v
 | .fresh v b=>(e.s.heap (e.s.H.set (n0+e.ix) b)).put e.o.dst v
 | .heavy v H=>(e.s.heap H).put e.o.dst v
def maskL (p:PM) (n0 i:Nat): List Nat→AH→AH
 | [],H=>H
 | a::as,H=>bif p.pre a i then maskL p n0 i as H else (maskL p n0 i as H).set (n0+a) .dead
def restoreL (p:PM) (n0 i:Nat) (H:AH): List Nat→AH→AH
 | [],H'=>H'
 | a::as,H'=>bif p.pre a i then restoreL p n0 i H as H' else (restoreL p n0 i H as H').set (n0+a) (H.get (n0+a))
def ckSnaps (p:PM) (al:List Nat) (n0 i:Nat) (o:Oper) (ev:Operand→AV) (v:AV) (K:R): List Ent→R
 | []=>K
 | e::es=>match e.out with
  | .heavy _ _=>bif p.pre e.ix i then ckSnaps p al n0 i o ev v K es
   else ard X I o ev (maskL p n0 i al e.s.H) fun v'=>X.assert (v.beq v') (ckSnaps p al n0 i o ev v K es)
  | _=>ckSnaps p al n0 i o ev v K es
def ckReads (p:PM) (al:List Nat) (n0 h:Nat) (H:AH) (K:R): List Ent→R
 | []=>K
 | e::es=>match e.out with
  | .read v=>bif p.pre e.ix h then ckReads p al n0 h H K es
   else ard X I e.o (e.s.evOf I.G e.o) (maskL p n0 e.ix al H) fun v'=>X.assert (v.beq v') (ckReads p al n0 h H K es)
  | _=>ckReads p al n0 h H K es
def dexec (call:Caller R) (round:Rounder R) (p:PM) (al:List Nat) (n0 N i:Nat) (tr:List Ent) (o:Oper) (s:St) (cont:Ent→R): R :=
 match cls I o with
 | .light=>apop X I o (s.evOf I.G o) (.blank N) fun v H'=>
   bif Nat.beq H'.n N then cont {ix:=i,o,s,out:=.pure v}
   else bif Nat.beq H'.n (N+1)&&mayNew o then cont {ix:=i,o,s,out:=.fresh (v.ren (toLab N (n0+i))) ((H'.get N).ren (toLab N (n0+i)))}
   else X.fail
 | .reader=>ard X I o (s.evOf I.G o) (maskL p n0 i al s.H) fun v=>ckSnaps X I p al n0 i o (s.evOf I.G o) v (cont {ix:=i,o,s,out:=.read v}) tr
 | .heavy=>aop X I call round o (s.evOf I.G o) (maskL p n0 i al s.H) (fun v H'=>bif Nat.ble H'.n N then ckReads X I p al n0 i (restoreL p n0 i s.H al H') (cont {ix:=i,o,s,out:=.heavy v (restoreL p n0 i s.H al H')}) tr else X.fail) (fun _ _=>X.fail)
def dops (call:Caller R) (round:Rounder R) (ops:Array Oper) (p:PM) (al:List Nat) (n0 N:Nat) (K:St→R): List Oper→Nat→List Ent→St→R
 | [],_,_,s=>K s
 | o::rest,i,tr,s=>
  match o.guard with
  | none=>dexec X I call round p al n0 N i tr o s fun e=>dops call round ops p al n0 N K rest (i+1) (e::tr) (e.next n0)
  | some (j,want)=>
   match (ops[j]?).bind (·.dst) with
   | none=>X.fail
   | some d=>
    match tget s.t d with
    | .bool b=>
     let run (s:St):=dexec X I call round p al n0 N i tr o s fun e=>dops call round ops p al n0 N K rest (i+1) (e::tr) (e.next n0)
     let skip (s:St):=dops call round ops p al n0 N K rest (i+1) ({ix:=i,o,s,out:=.skip}::tr) (Ent.next n0 {ix:=i,o,s,out:=.skip})
     X.cond b (fun _=>(bif want then run else skip) (s.put (some d) (.bool true))) (fun _=>(bif want then skip else run) (s.put (some d) (.bool false)))
    | .tup []=>dops call round ops p al n0 N K rest (i+1) ({ix:=i,o,s,out:=.skip}::tr) (Ent.next n0 {ix:=i,o,s,out:=.skip})
    | _=>X.fail
def newOnes:Nat→List Oper→List Nat
 | _,[]=>[]
 | i,o::os=>bif (match cls I o with | .light=>mayNew o | _=>false) then i::newOnes (i+1) os else newOnes (i+1) os
def drawn (N:Nat): Drawer R:=fun call round ops k s=>
 bif planOk I ops (PM.of ops.toList {n:=0,l:=[]})&&Nat.ble (s.H.n+ops.size) N then
  dops X I call round ops (PM.of ops.toList {n:=0,l:=[]}) (newOnes I 0 ops.toList) s.H.n N k.n ops.toList 0 [] (s.heap (s.H.up (s.H.n+ops.size)))
 else X.fail
end
section
variable {R:Type} {X:RI R} {sem:R→Prop} (hX:X.Ok sem) {I:Info} {P:Program} (hI:I.Ok P)
include hX hI in
theorem ard_ok {o:Oper} {ev:Operand→AV} {H:AH} {K:AV→R} (h:sem (ard X I o ev H K)): ∃ v,sem (K v)∧ReadFact P o ev H v:=by
 unfold ard at h
 split at h
 ·rename_i t a ho
  obtain ⟨z,h1,h2⟩:=aload_ok hX hI h
  refine ⟨z,h1,by simp [ho],fun c ρ w e he hr=>?_⟩
  obtain ⟨v,h3,h4⟩:=h2 c ρ w (e a) (he a) hr
  exact ⟨v,by simp [execOp,ho,h3],h4⟩
 ·rename_i t x lo hi mx ho
  obtain ⟨z,h1,h2⟩:=aslice_ok hX hI H h
  refine ⟨z,h1,by simp [ho],fun c ρ w e he hr=>?_⟩
  obtain ⟨u,h3,h4⟩:=h2 c ρ w (e x) (lo.map e) (hi.map e) (mx.map e) (he x) (bound_map he lo) (bound_map he hi) (bound_map he mx) hr
  exact ⟨u,by simp [execOp,ho,h3],h4⟩
 ·rename_i t x i ok ho
  obtain ⟨z,h1,h2⟩:=alookup_ok hX hI h
  refine ⟨z,h1,by simp [ho],fun c ρ w e he hr=>?_⟩
  obtain ⟨u,h3,h4⟩:=h2 c ρ w (e x) (e i) (he x) (he i) hr
  exact ⟨u,by simp [execOp,ho,h3],h4⟩
 ·rename_i s d x ho
  split at h
  ·rename_i e hs hd
   obtain ⟨z,h1,h2⟩:=aconvR_ok hX hI hs hd h
   refine ⟨z,h1,by simp [ho],fun c ρ w e he hr=>?_⟩
   obtain ⟨u,h3,h4⟩:=h2 c ρ w (e x) (he x) hr
   exact ⟨u,by simp [execOp,ho,h3],h4⟩
  ·exact absurd h hX.fail
 ·rename_i args ts ho
  split at h
  ·rename_i x t hx ht
   have ha:args= #[x]:=by apply Array.ext';simpa using hx
   have hts:ts= #[t]:=by apply Array.ext';simpa using ht
   subst ha hts
   obtain ⟨z,h1,h2⟩:=alen_ok hX hI h #[t] rfl o.type
   refine ⟨z,h1,by simp [ho],fun c ρ w e he hr=>?_⟩
   obtain ⟨u,h3,h4⟩:=h2 c ρ w (e x) (he x) hr
   exact ⟨u,by simp [execOp,ho,resolve,invoke,builtin,h3],h4⟩
  ·exact absurd h hX.fail
 ·exact absurd h hX.fail
end
end Go.Sx
end
section
namespace Go.Sx
open Go
def LightFact (P:Program) (o:Oper) (ev:Operand→AV) (N:Nat) (v:AV) (H':AH): Prop :=
 (∀ c,o.op≠ .defer c)∧ ∀ c ρ w (e:Operand→Value),(∀ x,VR ρ (ev x) (e x))→Rel c ρ (.blank N) w→GivesN P (execOp e o) c ρ w v H'
def WantedE (ops:Array Oper) (e:Ent): Prop :=
 e.o.guard=none∨ ∃ j want d,e.o.guard=some (j,want)∧(ops[j]?).bind (·.dst)=some d∧tget e.s.t d= .bool want
def SkipE (ops:Array Oper) (e:Ent): Prop :=
 ∃ j want d,e.o.guard=some (j,want)∧(ops[j]?).bind (·.dst)=some d∧(tget e.s.t d= .bool (!want)∨tget e.s.t d= .tup [])
structure SameSt (s s':St): Prop where
 nt:s'.nt=s.nt
 H:s'.H=s.H
 df:s'.df=s.df
 t : ∀ u,tget s'.t u=tget s.t u
theorem SameSt.refl (s:St): SameSt s s:=⟨rfl,rfl,rfl,fun _=>rfl⟩
theorem SameSt.lit {s:St} {d:Nat} {b:Bool} (h:tget s.t d= .bool b): SameSt s (s.put (some d) (.bool b)):=by
 simp only [St.put]
 cases Nat.blt d s.nt with
 | true=>
  refine ⟨rfl,rfl,rfl,fun u=>?_⟩
  simp only [cond_true]
  rw [tget_set]
  by_cases hu:u=d
  ·subst hu;rw [if_pos rfl,h]
  ·rw [if_neg hu]
 | false=>exact SameSt.refl s
section
variable (P:Program) (I:Info) (ops:Array Oper) (p:PM) (al:List Nat) (n0 N:Nat) (s0:St)
def EntOk (e:Ent): Prop :=
 ops[e.ix]? =some e.o∧
 match e.out with
 | .skip=>SkipE ops e
 | .pure v=>WantedE ops e∧isHeavy I e.o=false∧ ∃ H',H'.n=N∧LightFact P e.o (e.s.evOf I.G e.o) N v H'
 | .fresh v b=>WantedE ops e∧isHeavy I e.o=false∧e.ix∈al∧ ∃ v0 H',H'.n=N+1∧LightFact P e.o (e.s.evOf I.G e.o) N v0 H'∧v=v0.ren (toLab N (n0+e.ix))∧b=(H'.get N).ren (toLab N (n0+e.ix))
 | .read v=>WantedE ops e∧isHeavy I e.o=false∧ReadFact P e.o (e.s.evOf I.G e.o) (maskL p n0 e.ix al e.s.H) v
 | .heavy v H2=>WantedE ops e∧isHeavy I e.o=true∧ ∃ H',OpGives P I e.o (e.s.evOf I.G e.o) (maskL p n0 e.ix al e.s.H) (.ret v H')∧H2=restoreL p n0 e.ix e.s.H al H'∧H'.n≤N
def stAt (E:Nat→Ent): Nat→St
 | 0=>s0
 | j+1=>(E j).next n0
structure TraceOk (i:Nat) (E:Nat→Ent) (s:St): Prop where
 ix : ∀ j,j<i→(E j).ix=j
 ok : ∀ j,j<i→EntOk P I ops p al n0 N (E j)
 same : ∀ j,j<i→SameSt (stAt n0 s0 E j) (E j).s
 last:s=stAt n0 s0 E i
 back : ∀ j h v u Hh,j<i→h<j→(E j).out= .read v→(E h).out= .heavy u Hh→p.pre h j=false→ReadFact P (E j).o ((E j).s.evOf I.G (E j).o) (maskL p n0 j al (E h).s.H) v
 forth : ∀ j h v u Hh,h<i→j<h→(E j).out= .read v→(E h).out= .heavy u Hh→p.pre j h=false→ReadFact P (E j).o ((E j).s.evOf I.G (E j).o) (maskL p n0 j al Hh) v
end
section
variable {P:Program} {I:Info} {ops:Array Oper} {p:PM} {al:List Nat} {n0 N:Nat} {s0:St}
theorem stAt_congr {E E':Nat→Ent} {i:Nat} (h : ∀ j,j<i→E' j=E j): stAt n0 s0 E' i=stAt n0 s0 E i:=by
 cases i with
 | zero=>rfl
 | succ i=>simp only [stAt];rw [h i (Nat.lt_succ_self i)]
theorem TraceOk.snoc {i : Nat} {E : Nat → Ent} {s : St} (h : TraceOk P I ops p al n0 N s0 i E s) (e : Ent) (hi : e.ix = i) (ho : EntOk P I ops p al n0 N e) (hs : SameSt s e.s)
    (hb : ∀ h v u Hh, h < i → e.out = .read v → (E h).out = .heavy u Hh → p.pre h i = false → ReadFact P e.o (e.s.evOf I.G e.o) (maskL p n0 i al (E h).s.H) v)
    (hf : ∀ j v u Hh, j < i → (E j).out = .read v → e.out = .heavy u Hh → p.pre j i = false → ReadFact P (E j).o ((E j).s.evOf I.G (E j).o) (maskL p n0 j al Hh) v) :
    ∃ E', (∀ j, j < i → E' j = E j) ∧ E' i = e ∧ TraceOk P I ops p al n0 N s0 (i + 1) E' (e.next n0) := by
  obtain ⟨E', hE'⟩ : ∃ E' : Nat → Ent, E' = fun j => if j = i then e else E j := ⟨_, rfl⟩
  have at_ : E' i = e := by rw [hE']; simp
  have off : ∀ j, j < i → E' j = E j := fun j hj => by rw [hE']; have : ¬ j = i := by omega
                                                       simp [this]
  refine ⟨E', off, at_, fun j hj => ?_, fun j hj => ?_, fun j hj => ?_, ?_, fun j k v u Hh hj hk h1 h2 h3 => ?_, fun j k v u Hh hk hj h1 h2 h3 => ?_⟩
  · by_cases e1 : j = i
    · subst e1; rw [at_]; exact hi
    · rw [off j (by omega)]; exact h.ix j (by omega)
  · by_cases e1 : j = i
    · subst e1; rw [at_]; exact ho
    · rw [off j (by omega)]; exact h.ok j (by omega)
  · by_cases e1 : j = i
    · subst e1
      rw [at_, stAt_congr (fun k hk => off k hk), ← h.last]
      exact hs
    · rw [off j (by omega), stAt_congr (fun k hk => off k (by omega))]
      exact h.same j (by omega)
  · simp only [stAt, at_]
  · by_cases e1 : j = i
    · subst e1
      rw [at_] at h1 ⊢
      rw [off k hk] at h2 ⊢
      exact hb k v u Hh hk h1 h2 h3
    · rw [off j (by omega)] at h1 ⊢
      rw [off k (by omega)] at h2 ⊢
      exact h.back j k v u Hh (by omega) hk h1 h2 h3
  · by_cases e1 : k = i
    · subst e1
      rw [at_] at h2
      rw [off j hj] at h1 ⊢
      exact hf j v u Hh hj h1 h2 h3
    · rw [off j (by omega)] at h1 ⊢
      rw [off k (by omega)] at h2
      exact h.forth j k v u Hh (by omega) hj h1 h2 h3
end
section
variable {R:Type} {X:RI R} {sem:R→Prop} (hX:X.Ok sem) {I:Info} {P:Program} (hI:I.Ok P)
theorem ReadFact.beq {P:Program} {o:Oper} {ev:Operand→AV} {M:AH} {v v':AV} (h:ReadFact P o ev M v') (hb:v.beq v'=true): ReadFact P o ev M v :=
 ⟨h.1,fun c ρ w e he hr=>by
  obtain ⟨u,h1,h2⟩:=h.2 c ρ w e he hr
  exact ⟨u,h1,AV.vr_of_beq _ _ _ hb h2⟩⟩
include hX hI in
theorem ckSnaps_ok {p:PM} {al:List Nat} {n0 i:Nat} {o:Oper} {ev:Operand→AV} {v:AV} {K:R}: ∀ {es:List Ent},sem (ckSnaps X I p al n0 i o ev v K es)→
  sem K∧ ∀ e∈es,∀ u Hh,e.out= .heavy u Hh→p.pre e.ix i=false→ReadFact P o ev (maskL p n0 i al e.s.H) v
 | [],h=>⟨h,fun e he=>by cases he⟩
 | e::es,h=>by
  simp only [ckSnaps] at h
  split at h
  ·rename_i u Hh hout
   cases hp:p.pre e.ix i with
   | true=>
    rw [hp] at h
    obtain ⟨h1,h2⟩:=ckSnaps_ok h
    refine ⟨h1,fun e' he' u' Hh' ho' hp'=>?_⟩
    rcases List.mem_cons.1 he' with rfl | he'
    ·rw [hp] at hp';cases hp'
    ·exact h2 e' he' u' Hh' ho' hp'
   | false=>
    rw [hp] at h
    obtain ⟨v',h1,h2⟩:=ard_ok hX hI h
    obtain ⟨h3,h4⟩:=hX.assert _ _ h1
    have h2:=h2.beq h3
    obtain ⟨h5,h6⟩:=ckSnaps_ok h4
    refine ⟨h5,fun e' he' u' Hh' ho' hp'=>?_⟩
    rcases List.mem_cons.1 he' with rfl | he'
    ·exact h2
    ·exact h6 e' he' u' Hh' ho' hp'
  ·rename_i hout
   obtain ⟨h1,h2⟩:=ckSnaps_ok h
   refine ⟨h1,fun e' he' u' Hh' ho' hp'=>?_⟩
   rcases List.mem_cons.1 he' with rfl | he'
   ·exact absurd ho' (hout _ _)
   ·exact h2 e' he' u' Hh' ho' hp'
include hX hI in
theorem ckReads_ok {p:PM} {al:List Nat} {n0 k:Nat} {H:AH} {K:R}: ∀ {es:List Ent},sem (ckReads X I p al n0 k H K es)→
  sem K∧ ∀ e∈es,∀ v,e.out= .read v→p.pre e.ix k=false→ReadFact P e.o (e.s.evOf I.G e.o) (maskL p n0 e.ix al H) v
 | [],h=>⟨h,fun e he=>by cases he⟩
 | e::es,h=>by
  simp only [ckReads] at h
  split at h
  ·rename_i v hout
   cases hp:p.pre e.ix k with
   | true=>
    rw [hp] at h
    obtain ⟨h1,h2⟩:=ckReads_ok h
    refine ⟨h1,fun e' he' v' ho' hp'=>?_⟩
    rcases List.mem_cons.1 he' with rfl | he'
    ·rw [hp] at hp';cases hp'
    ·exact h2 e' he' v' ho' hp'
   | false=>
    rw [hp] at h
    obtain ⟨v',h1,h2⟩:=ard_ok hX hI h
    obtain ⟨h3,h4⟩:=hX.assert _ _ h1
    have h2:=h2.beq h3
    obtain ⟨h5,h6⟩:=ckReads_ok h4
    refine ⟨h5,fun e' he' v' ho' hp'=>?_⟩
    rcases List.mem_cons.1 he' with rfl | he'
    ·rw [hout] at ho';cases ho';exact h2
    ·exact h6 e' he' v' ho' hp'
  ·rename_i hout
   obtain ⟨h1,h2⟩:=ckReads_ok h
   refine ⟨h1,fun e' he' v' ho' hp'=>?_⟩
   rcases List.mem_cons.1 he' with rfl | he'
   ·exact absurd ho' (hout _)
   ·exact h2 e' he' v' ho' hp'
def mayList (I:Info) (ops:Array Oper) (al:List Nat): Prop := ∀ i o,ops[i]? =some o→(∃ u,cls I o=u∧u= .light)→mayNew o=true→i∈al
include hX hI in
theorem dops_ok {call:Caller R} (hcall:CallerOk P I sem call) {round:Rounder R} (hround:RounderOk P I sem round) {ops:Array Oper} {p:PM} {al:List Nat} (hal:mayList I ops al) {n0 N:Nat} {s0:St} {K:St→R}:
  ∀ (l:List Oper) (i:Nat) (s:St) (E:Nat→Ent),ops.toList.drop i=l→i≤ops.size→TraceOk P I ops p al n0 N s0 i E s→sem (dops X I call round ops p al n0 N K l i (((List.range i).map E).reverse) s)→
  ∃ sf E',sem (K sf)∧TraceOk P I ops p al n0 N s0 ops.size E' sf
 | [],i,s,E,hl,hi2,ht,h=>by
  simp only [dops] at h
  have hi:ops.size≤i:=by
   have:=congrArg List.length hl
   simp at this;omega
  have:i=ops.size:=by omega
  subst this
  exact ⟨s,E,h,ht⟩
 | o::rest,i,s,E,hl,hi2,ht,h=>by
  have ho:ops[i]? =some o:=by
   have:(ops.toList.drop i)[0]? =some o:=by rw [hl];rfl
   rw [List.getElem?_drop] at this
   simpa using this
  have hrest:ops.toList.drop (i+1)=rest:=by rw [←List.drop_drop,hl];rfl
  have mem : ∀ j,j<i→E j∈((List.range i).map E).reverse:=fun j hj=>by simp;exact ⟨j,hj,rfl⟩
  have next : ∀ (e:Ent) (E':Nat→Ent),(∀ j,j<i→E' j=E j)→E' i=e→e::((List.range i).map E).reverse=((List.range (i+1)).map E').reverse:=fun e E' h1 h2=>by
   rw [List.range_succ,List.map_append,List.reverse_append]
   simp only [List.map_cons,List.map_nil,List.reverse_cons,List.reverse_nil,List.nil_append,List.singleton_append,h2]
   congr 2
   exact List.map_congr_left fun j hj=>(h1 j (List.mem_range.1 hj)).symm
  have go : ∀ e:Ent,e.ix=i→EntOk P I ops p al n0 N e→SameSt s e.s→
    (∀ h v u Hh,h<i→e.out= .read v→(E h).out= .heavy u Hh→p.pre h i=false→ReadFact P e.o (e.s.evOf I.G e.o) (maskL p n0 i al (E h).s.H) v)→
    (∀ j v u Hh,j<i→(E j).out= .read v→e.out= .heavy u Hh→p.pre j i=false→ReadFact P (E j).o ((E j).s.evOf I.G (E j).o) (maskL p n0 j al Hh) v)→
    sem (dops X I call round ops p al n0 N K rest (i+1) (e::((List.range i).map E).reverse) (e.next n0))→ ∃ sf E',sem (K sf)∧TraceOk P I ops p al n0 N s0 ops.size E' sf:=by
   intro e h1 h2 h3 h4 h5 h6
   obtain ⟨E',k1,k2,k3⟩:=ht.snoc e h1 h2 h3 h4 h5
   rw [next e E' k1 k2] at h6
   exact dops_ok hcall hround hal rest (i+1) _ E' hrest (by have:=(Array.getElem?_eq_some_iff.1 ho).1;omega) k3 h6
  have exec : ∀ s':St,SameSt s s'→(∀ out,WantedE ops {ix:=i,o,s:=s',out})→
    sem (dexec X I call round p al n0 N i (((List.range i).map E).reverse) o s' fun e=>dops X I call round ops p al n0 N K rest (i+1) (e::((List.range i).map E).reverse) (e.next n0))→
    ∃ sf E',sem (K sf)∧TraceOk P I ops p al n0 N s0 ops.size E' sf:=by
   intro s' hs' hw h
   unfold dexec at h
   split at h
   ·rename_i hcls
    have hh:isHeavy I o=false:=by simp [isHeavy,hcls]
    have hdf:=apop_defer hX h
    obtain ⟨v,H',h1,h2⟩:=apop_ok hX hI h
    cases hn:Nat.beq H'.n N with
    | true=>
     rw [hn] at h1
     exact go {ix:=i,o,s:=s',out:=.pure v} rfl ⟨ho,hw _,hh,H',Nat.eq_of_beq_eq_true hn,hdf,h2⟩ hs' (fun _ _ _ _ _ e=>by cases e) (fun _ _ _ _ _ _ e=>by cases e) h1
    | false=>
     rw [hn] at h1
     cases hn2:Nat.beq H'.n (N+1)&&mayNew o with
     | true=>
      simp only [hn2,cond_true,cond_false] at h1
      simp only [Bool.and_eq_true] at hn2
      exact go {ix:=i,o,s:=s',out:=.fresh (v.ren (toLab N (n0+i))) ((H'.get N).ren (toLab N (n0+i)))} rfl ⟨ho,hw _,hh,hal i o ho ⟨_,hcls,rfl⟩ hn2.2,v,H',Nat.eq_of_beq_eq_true hn2.1,⟨hdf,h2⟩,rfl,rfl⟩ hs' (fun _ _ _ _ _ e=>by cases e) (fun _ _ _ _ _ _ e=>by cases e) h1
     | false=>
      simp only [hn2,cond_false] at h1
      exact absurd h1 hX.fail
   ·rename_i hcls
    have hh:isHeavy I o=false:=by simp [isHeavy,hcls]
    obtain ⟨v,h1,h2⟩:=ard_ok hX hI h
    obtain ⟨h3,h4⟩:=ckSnaps_ok hX hI (P:=P) h1
    refine go {ix:=i,o,s:=s',out:=.read v} rfl ⟨ho,hw _,hh,h2⟩ hs' (fun hh v' u Hh hlt e1 e2 hp=>?_) (fun _ _ _ _ _ _ e=>by cases e) h3
    cases e1
    exact h4 _ (mem hh hlt) u Hh e2 (by rw [ht.ix hh hlt];exact hp)
   ·rename_i hcls
    have hh:isHeavy I o=true:=by simp [isHeavy,hcls]
    obtain ⟨out,h1,h2⟩:=aop_ok hX hI hcall hround h
    cases out with
    | pan v H'=>exact absurd h1 hX.fail
    | ret v H'=>
     simp only [CO.sem] at h1
     cases hle:Nat.ble H'.n N with
     | false=>rw [hle] at h1;exact absurd h1 hX.fail
     | true=>
     rw [hle] at h1
     obtain ⟨h3,h4⟩:=ckReads_ok hX hI (P:=P) h1
     refine go {ix:=i,o,s:=s',out:=.heavy v (restoreL p n0 i s'.H al H')} rfl ⟨ho,hw _,hh,H',h2,rfl,Nat.le_of_ble_eq_true hle⟩ hs' (fun _ _ _ _ _ e=>by cases e) (fun j v' u Hh hlt e1 e2 hp=>?_) h3
     cases e2
     have:=h4 _ (mem j hlt) v' e1 (by rw [ht.ix j hlt];exact hp)
     rw [ht.ix j hlt] at this
     exact this
  have skip : ∀ s':St,SameSt s s'→SkipE ops {ix:=i,o,s:=s',out:=.skip}→sem (dops X I call round ops p al n0 N K rest (i+1) ({ix:=i,o,s:=s',out:=.skip}::((List.range i).map E).reverse) (Ent.next n0 {ix:=i,o,s:=s',out:=.skip}))→
    ∃ sf E',sem (K sf)∧TraceOk P I ops p al n0 N s0 ops.size E' sf:=fun s' hs' hw h=>
   go {ix:=i,o,s:=s',out:=.skip} rfl ⟨ho,hw⟩ hs' (fun _ _ _ _ _ e=>by cases e) (fun _ _ _ _ _ _ e=>by cases e) h
  simp only [dops] at h
  split at h
  ·rename_i hg
   exact exec s (SameSt.refl s) (fun out=> .inl hg) h
  ·rename_i j want hg
   split at h
   ·exact absurd h hX.fail
   ·rename_i d hd
    split at h
    ·rename_i b hb
     have hc:=hX.cond _ _ _ h
     have hlit:SameSt s (s.put (some d) (.bool b)):=SameSt.lit hb
     have ht':tget (s.put (some d) (.bool b)).t d= .bool b:=(hlit.t d).trans hb
     cases b<;>cases want<;>simp only [if_true,Bool.false_eq_true,if_false,cond_true,cond_false] at hc
     ·exact exec _ hlit (fun out=> .inr ⟨j,_,d,hg,hd,ht'⟩) hc
     ·exact skip _ hlit ⟨j,_,d,hg,hd,.inl ht'⟩ hc
     ·exact skip _ hlit ⟨j,_,d,hg,hd,.inl ht'⟩ hc
     ·exact exec _ hlit (fun out=> .inr ⟨j,_,d,hg,hd,ht'⟩) hc
    ·rename_i hb
     exact skip s (SameSt.refl s) ⟨j,_,d,hg,hd,.inr hb⟩ h
    ·exact absurd h hX.fail
end
end Go.Sx
end
