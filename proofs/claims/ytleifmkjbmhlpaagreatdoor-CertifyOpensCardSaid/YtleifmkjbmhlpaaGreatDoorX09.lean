/- CertifyOpens is proved, part 9. -/
import Derived.Test.YtleifmkjbmhlpaaGreatDoorX08
set_option linter.unusedVariables false
set_option linter.unusedSimpArgs false
set_option linter.unusedSectionVars false
section
namespace Go.Sx
open Go
mutual
theorem VR.unren {σ:Nat→Nat} {ρ:Env}: ∀ (a:AV) (v:Value),VR ρ (a.ren σ) v→VR (ρ.turn σ) a v
 | .bool _,_,k=>by simpa only [VR,AV.ren] using k
 | .int _ _,_,k=>by simpa only [VR,AV.ren] using k
 | .str _,_,k=>by simpa only [VR,AV.ren] using k
 | .nilPtr,_,k=>by simpa only [VR,AV.ren] using k
 | .ptr l _ _ _,v,k=>by simp only [VR,AV.ren] at k⊢;exact k
 | .slice l _ _ _ _ _,v,k=>by simp only [VR,AV.ren] at k⊢;exact k
 | .nilSlice,_,k=>by simpa only [VR,AV.ren] using k
 | .own l len e,v,k=>by simp only [VR,AV.ren] at k⊢;exact k
 | .map none,_,k=>by simpa only [VR,AV.ren] using k
 | .map (some l),v,k=>by simp only [VR,AV.ren] at k⊢;exact k
 | .fn f first caps,v,k=>by
  simp only [VR,AV.ren] at k⊢
  obtain ⟨us,vs,e,r,s⟩:=k
  exact ⟨us,vs,e,VRs.unren first us r,VRs.unren caps vs s⟩
 | .yield l,v,k=>by simp only [VR,AV.ren] at k⊢;exact k
 | .nilFn,_,k=>by simpa only [VR,AV.ren] using k
 | .nilIface,_,k=>by simpa only [VR,AV.ren] using k
 | .iface t a,v,k=>by
  simp only [VR,AV.ren] at k⊢
  obtain ⟨u,e,r⟩:=k
  exact ⟨u,e,VR.unren a u r⟩
 | .agg cs,v,k=>by
  simp only [VR,AV.ren] at k⊢
  obtain ⟨vs,e,r⟩:=k
  exact ⟨vs,e,VRs.unren cs vs r⟩
 | .tup cs,v,k=>by
  simp only [VR,AV.ren] at k⊢
  obtain ⟨vs,e,r⟩:=k
  exact ⟨vs,e,VRs.unren cs vs r⟩
 | .any,_,_=>by simp only [VR]
 | .fptr _ _,v,k=>by
  simp only [VR,AV.ren] at k⊢
  obtain ⟨b,q,vs,h1,h2,h3⟩:=k
  exact ⟨b,q,vs,h1,h2,h3⟩
 | .fslice _ _ _,v,k=>by
  simp only [VR,AV.ren] at k⊢
  rcases k with k | ⟨b,q,c,a,vss,h1,h2,h3⟩
  ·exact .inl k
  ·exact .inr ⟨b,q,c,a,vss,h1,h2,h3⟩
theorem VRs.unren {σ:Nat→Nat} {ρ:Env}: ∀ (as:List AV) (vs:List Value),VRs ρ (AVs.ren σ as) vs→VRs (ρ.turn σ) as vs
 | [],_,k=>by simpa only [VRs,AVs.ren] using k
 | a::as,vs,k=>by
  simp only [VRs,AVs.ren] at k⊢
  obtain ⟨u,us,e,r,s⟩:=k
  exact ⟨u,us,e,VR.unren a u r,VRs.unren as us s⟩
end
theorem CellsRel.unren {σ:Nat→Nat} {ρ:Env} {w:World} {o:Option (Nat×Nat)} {cs:List AV} {rw:Access} (k:CellsRel ρ w o (AVs.ren σ cs) rw): CellsRel (ρ.turn σ) w o cs rw:=by
 rcases k with ⟨h,k⟩ | ⟨b,N,vs,rest,el,fr,h1,h2,h3,h4,h5⟩
 ·cases cs with
  | nil=>exact .inl ⟨rfl,k⟩
  | cons=>simp [AVs.ren] at h
 ·exact .inr ⟨b,N,vs,rest,el,fr,h1,h2,h3,VRs.unren _ _ h4,h5⟩
theorem BlkRel.unren {σ:Nat→Nat} {ρ:Env} {w:World} {o:Option (Nat×Nat)} {b:ABlk} (k:BlkRel ρ w o (b.ren σ)): BlkRel (ρ.turn σ) w o b:=by
 cases b with
 | cells cs rw=>exact CellsRel.unren k
 | rows n e f rw=>
  refine ⟨fun i hi=>by have:=k.1 i hi;simpa only [AVs.ren_eq,List.length_map] using this,?_⟩
  have e1:AVs.ren σ (rowsOf n f)=rowsOf n (fun i=>AVs.ren σ (f i)):=by
   simp only [AVs.ren_eq,rowsOf,List.map_flatMap]
  have:=k.2
  rw [←e1] at this
  exact CellsRel.unren this
 | str s rw=>refine CellsRel.unren (σ:=σ) (cs:=byteCells s) ?_;rw [byteCells_ren];exact k
 | map es=>
  obtain ⟨b,N,ms,clock,h1,h2,⟨ms',h3,h4,h5,h6⟩,h7⟩:=k
  rw [unmark_ren] at h3 h4
  rw [isMark_ren] at h5
  refine ⟨b,N,ms,clock,h1,h2,⟨ms',VRs.unren _ _ ?_,VRs.unren _ _ ?_,h5,h6⟩,fun e=>h7 (by rw [e];rfl)⟩
  ·simpa [AVs.ren_eq,Function.comp_def] using h3
  ·simpa [AVs.ren_eq,Function.comp_def] using h4
 | loop st pd t nt ps as bd df=>
  obtain ⟨b,N,d,M,fn,vs,h1,h2,h3,h4⟩:=k
  refine ⟨b,N,d,M,fn,vs,h1,h2,⟨h3.1,fun i=>?_⟩,h4⟩
  have:=h3.2 i
  unfold tget at this⊢
  rw [Tr.get_map] at this
  cases ht:t.get i with
  | none=>simp [VR]
  | some a=>rw [ht] at this;exact VR.unren _ _ (by simpa using this)
 | dfr=>exact k
 | iter l=>exact k
 | iset n K=>exact k
 | iwalk l since S=>exact k
 | dead=>trivial
structure Sub (G:Nat) (σ:Nat→Nat) (H0 H:AH): Prop where
 lt : ∀ l,l<H0.n→σ l<H.n
 ge : ∀ l,H0.n≤l→σ l=H.n+(l-H0.n)
 same : ∀ l,H0.get l≠ .dead→H.get (σ l)=(H0.get l).ren σ
 inj : ∀ l l',H0.get l≠ .dead→H0.get l'≠ .dead→σ l=σ l'→l=l'
 glob : ∀ g,g<G→g<H0.n∧σ g=g
 low : ∀ l,H0.n≤l→H0.get l= .dead
structure Sup (σ:Nat→Nat) (H0 H0' H H':AH): Prop where
 n:H'.n=H.n+(H0'.n-H0.n)
 old : ∀ l,H0.get l≠ .dead→H'.get (σ l)=(H0'.get l).ren σ
 new : ∀ l,H0.n≤l→H'.get (σ l)=(H0'.get l).ren σ
 rest : ∀ l,l<H.n→(∀ k,H0.get k≠ .dead→σ k≠l)→H'.get l=H.get l
def Ctx.into (c:Ctx) (ρ:Env) (H0 H:AH) (σ:Nat→Nat) (w:World): Ctx :=
 {w0:=w
  Z:=fun k=>c.Z k∨ ∃ l N,H.get l≠ .dead∧(H.get l).rw=false∧ρ l=some (k,N)
  G:=c.G
  X:=fun k=>c.X k∨ ∃ l N,(H.get l).rw=true∧(∀ j,H0.get j≠ .dead→σ j≠l)∧ρ l=some (k,N)
  E:=fun l=>l<H0.n
  ρ0:=ρ.turn σ}
theorem rw_dead {b:ABlk} (h:b.rw=true): b≠ .dead:=fun e=>by rw [e] at h;cases h
theorem Rel.into {c:Ctx} {ρ:Env} {H0 H:AH} {σ:Nat→Nat} {w:World} (h:Rel c ρ H w) (s:Sub c.G σ H0 H): Rel (c.into ρ H0 H σ w) (ρ.turn σ) H0 w:=by
 have live : ∀ l,H0.get l≠ .dead→H.get (σ l)≠ .dead:=fun l hd=>by
  rw [s.same l hd];exact fun e=>hd (ABlk.ren_dead.1 e)
 have rwe : ∀ l,H0.get l≠ .dead→(H.get (σ l)).rw=(H0.get l).rw:=fun l hd=>by rw [s.same l hd,ABlk.ren_rw]
 have old : ∀ k,c.Z k∨c.X k→k<w.heap.size:=fun k hk=>Nat.lt_of_lt_of_le (h.keep k hk).1 h.size
 refine ⟨fun l=>?_,fun l l' r N N' hne hrw h1 h2=>?_,fun l r N hrw h1 hz=>?_,fun k hk=>⟨?_,rfl⟩,Nat.le_refl _,rfl,rfl,rfl,fun l hl=>?_,fun g hg=>?_,fun l r N hd h1 hx=>?_,fun l hl=>⟨hl,rfl⟩,s.low,h.fro,fun l r N hrw h1=>?_,fun k hk=>?_,fun _ _ e=>e⟩
 ·by_cases hd:H0.get l= .dead
  ·rw [hd];trivial
  ·have:=h.blk (σ l)
   rw [s.same l hd] at this
   exact BlkRel.unren this
 ·apply Classical.byContradiction
  intro hd'
  have hd:=rw_dead hrw
  exact live l' hd' (h.sep (σ l) (σ l') r N N' (fun e=>hne (s.inj l l' hd hd' e)) (by rw [rwe l hd];exact hrw) h1 h2)
 ·have hd:=rw_dead hrw
  have hrw':(H.get (σ l)).rw=true:=by rw [rwe l hd];exact hrw
  rcases hz with hz | ⟨l',N',hd',hro,h2⟩
  ·exact h.prot _ r N hrw' h1 hz
  ·refine hd' (h.sep (σ l) l' r N N' (fun e=>?_) hrw' h1 h2)
   rw [←e,hrw'] at hro;cases hro
 ·rcases hk with (hk | ⟨l',N',hd',_,h2⟩) | (hk | ⟨l',N',hrw,_,h2⟩)
  ·exact old k (.inl hk)
  ·exact h.lt hd' h2
  ·exact old k (.inr hk)
  ·exact h.lt (rw_dead hrw) h2
 ·show ρ (σ l)=none
  exact h.top _ (by rw [s.ge l hl];omega)
 ·obtain ⟨N,hN⟩:=h.glob g hg
  exact ⟨N,by show ρ (σ g)=_;rw [(s.glob g hg).2];exact hN⟩
 ·rcases hx with hx | ⟨l',N',hrw,hj,h2⟩
  ·exact h.hid _ r N (live l hd) h1 hx
  ·exact live l hd (h.sep l' (σ l) r N' N (fun e=>hj l hd e.symm) hrw h2 h1)
 ·exact h.frw (σ l) r N (by rw [rwe l (rw_dead hrw)];exact hrw) h1
 ·rcases hk with hk | ⟨l',N',hrw,_,h2⟩
  ·exact h.frx k hk
  ·exact h.frw l' k N' hrw h2
def Env.back (ρ ρ':Env) (n0 n:Nat): Env:=⟨fun l=>if l<n then ρ l else ρ' (n0+(l-n)),ρ'.fz⟩
theorem Rel.outOf {c:Ctx} {ρ ρ':Env} {H0 H H0' H':AH} {σ:Nat→Nat} {w w':World} (h:Rel c ρ H w) (s:Sub c.G σ H0 H) (h':Rel (c.into ρ H0 H σ w) ρ' H0' w') (t:Sup σ H0 H0' H H'):
  Ext ρ (ρ.back ρ' H0.n H.n)∧(∀ l,ρ.back ρ' H0.n H.n (σ l)=ρ' l)∧Rel c (ρ.back ρ' H0.n H.n) H' w':=by
 have hle:H0.n≤H0'.n:=by
  refine Nat.le_of_not_lt fun hlt=>?_
  have:=(h'.env H0'.n hlt).1
  omega
 have b1 : ∀ l,l<H.n→ρ.back ρ' H0.n H.n l=ρ l:=fun l hl=>by simp [Env.back,hl]
 have bs : ∀ l,ρ.back ρ' H0.n H.n (σ l)=ρ' l:=fun l=>by
  by_cases hl:l<H0.n
  ·rw [b1 _ (s.lt l hl)]
   exact (h'.env l hl).2.symm
  ·have:=s.ge l (Nat.le_of_not_lt hl)
   simp only [Env.back,this]
   rw [if_neg (by omega)]
   congr 1;omega
 have hx:Ext ρ (ρ.back ρ' H0.n H.n):=by
  refine ⟨fun l x e=>?_,h'.frk⟩
  have:l<H.n:=Nat.lt_of_not_le fun hle=>by rw [h.top l hle] at e;cases e
  rw [b1 l this];exact e
 have ren:RenR σ ρ' (ρ.back ρ' H0.n H.n):=⟨fun l x e=>by rw [bs];exact e,fun _ _ e=>e⟩
 have kind : ∀ l,(∃ k,l=σ k∧H'.get l=(H0'.get k).ren σ)∨(l<H.n∧(∀ k,H0.get k≠ .dead→σ k≠l)∧H'.get l=H.get l):=fun l=>by
  by_cases hl:l<H.n
  ·by_cases hk : ∃ k,H0.get k≠ .dead∧σ k=l
   ·obtain ⟨k,hk,rfl⟩:=hk
    exact .inl ⟨k,rfl,t.old k hk⟩
   ·have : ∀ k,H0.get k≠ .dead→σ k≠l:=fun k hd e=>hk ⟨k,hd,e⟩
    exact .inr ⟨hl,this,t.rest l hl this⟩
  ·have e:l=σ (H0.n+(l-H.n)):=by rw [s.ge _ (by omega)];omega
   refine .inl ⟨_,e,?_⟩
   rw [e]
   have:=t.new (H0.n+(l-H.n)) (by omega)
   rw [←e] at this⊢
   exact this
 have zone : ∀ l r N,l<H.n→(∀ k,H0.get k≠ .dead→σ k≠l)→H.get l≠ .dead→ρ l=some (r,N)→((H.get l).rw=false∧(c.into ρ H0 H σ w).Z r)∨((H.get l).rw=true∧(c.into ρ H0 H σ w).X r):=fun l r N _ hk hd h1=>by
  cases hrw:(H.get l).rw with
  | true=>exact .inr ⟨rfl,.inr ⟨l,N,hrw,hk,h1⟩⟩
  | false=>exact .inl ⟨rfl,.inr ⟨l,N,hd,hrw,h1⟩⟩
 have live : ∀ k,(H0'.get k).ren σ≠ .dead→H0'.get k≠ .dead:=fun k hd e=>hd (by rw [e];rfl)
 refine ⟨hx,bs,fun l=>?_,fun l l' r N N' hne hrw h1 h2=>?_,fun l r N hrw h1 hz=>?_,fun k hk=>?_,Nat.le_trans h.size h'.size,h'.os.trans h.os,h'.output.trans h.output,h'.tape.trans h.tape,fun l hl=>?_,fun g hg=>?_,fun l r N hd h1 hz=>?_,fun l hl=>?_,fun l hl=>?_,h'.fro,fun l r N hrw h1=>?_,fun k hk=>h'.frx k (.inl hk),fun k vs e=>h'.frk k vs (h.frk k vs e)⟩
 ·rcases kind l with ⟨k,rfl,e⟩ | ⟨hl,hk,e⟩
  ·rw [e,bs];exact BlkRel.ren ren (h'.blk k)
  ·rw [e,b1 l hl]
   by_cases hd:H.get l= .dead
   ·rw [hd];trivial
   ·refine BlkRel.world (fun r N e'=>?_) ((h.blk l).ext hx)
    exact (h'.keep r ((zone l r N hl hk hd e').imp And.right And.right)).2
 ·apply Classical.byContradiction
  intro hd'
  rcases kind l with ⟨k,rfl,e⟩ | ⟨hl,hk,e⟩
  ·rw [e,ABlk.ren_rw] at hrw
   rw [bs] at h1
   rcases kind l' with ⟨k',rfl,e'⟩ | ⟨hl',hk',e'⟩
   ·rw [e'] at hd'
    rw [bs] at h2
    exact live k' hd' (h'.sep k k' r N N' (fun e=>hne (by rw [e])) hrw h1 h2)
   ·rw [e'] at hd'
    rw [b1 l' hl'] at h2
    rcases zone l' r N' hl' hk' hd' h2 with ⟨_,hz⟩ | ⟨_,hz⟩
    ·exact h'.prot k r N hrw h1 hz
    ·exact h'.hid k r N (rw_dead hrw) h1 hz
  ·rw [e] at hrw
   rw [b1 l hl] at h1
   rcases kind l' with ⟨k',rfl,e'⟩ | ⟨hl',hk',e'⟩
   ·rw [e'] at hd'
    rw [bs] at h2
    rcases zone l r N hl hk (rw_dead hrw) h1 with ⟨hf,_⟩ | ⟨_,hz⟩
    ·rw [hrw] at hf;cases hf
    ·exact h'.hid k' r N' (live k' hd') h2 hz
   ·rw [e'] at hd'
    rw [b1 l' hl'] at h2
    exact hd' (h.sep l l' r N N' hne hrw h1 h2)
 ·rcases kind l with ⟨k,rfl,e⟩ | ⟨hl,hk,e⟩
  ·rw [e,ABlk.ren_rw] at hrw
   rw [bs] at h1
   exact h'.prot k r N hrw h1 (.inl hz)
  ·rw [e] at hrw
   rw [b1 l hl] at h1
   exact h.prot l r N hrw h1 hz
 ·obtain ⟨h1,h2⟩:=h.keep k hk
  exact ⟨h1,((h'.keep k (hk.imp .inl .inl)).2).trans h2⟩
 ·rw [t.n] at hl
  simp only [Env.back]
  rw [if_neg (by omega)]
  exact h'.top _ (by omega)
 ·obtain ⟨N,hN⟩:=h.glob g hg
  exact ⟨N,hx _ _ hN⟩
 ·rcases kind l with ⟨k,rfl,e⟩ | ⟨hl,hk,e⟩
  ·rw [e] at hd
   rw [bs] at h1
   exact h'.hid k r N (live k hd) h1 (.inl hz)
  ·rw [e] at hd
   rw [b1 l hl] at h1
   exact h.hid l r N hd h1 hz
 ·obtain ⟨h1,h2⟩:=h.env l hl
  exact ⟨by rw [t.n];omega,by rw [b1 l h1];exact h2⟩
 ·rw [t.n] at hl
  have e:l=σ (H0.n+(l-H.n)):=by rw [s.ge _ (by omega)];omega
  have:=t.new (H0.n+(l-H.n)) (by omega)
  rw [←e] at this
  rw [this,h'.low _ (by omega)]
  rfl
 ·rcases kind l with ⟨k,rfl,e⟩ | ⟨hl,hk,e⟩
  ·rw [e,ABlk.ren_rw] at hrw
   rw [bs] at h1
   exact h'.frw k r N hrw h1
  ·rw [e] at hrw
   rw [b1 l hl] at h1
   exact h'.frx r (.inr ⟨l,N,hrw,hk,h1⟩)
def CO.into (σ:Nat→Nat) (H':AH): CO→CO
 | .ret a _=> .ret (a.ren σ) H'
 | .pan a _=> .pan (a.ren σ) H'
def CO.heap:CO→AH
 | .ret _ H=>H
 | .pan _ H=>H
theorem CallGives.lift {P:Program} {I:Info} {f:FuncId} {args:List AV} {H0:AH} {o:CO} (h:CallGives P I f args H0 o) {σ:Nat→Nat} {H H':AH} (s:Sub I.G σ H0 H) (t:Sup σ H0 o.heap H H'):
  CallGives P I f (AVs.ren σ args) H (o.into σ H'):=by
 intro c ρ w vs hG hv hr
 rw [←hG] at s
 have hr0:=hr.into s
 have hv0:=VRs.unren _ _ hv
 have post : ∀ e w',o.post (c.into ρ H0 H σ w) (ρ.turn σ) e w'→(o.into σ H').post c ρ e w':=by
  intro e w' hp
  cases o with
  | ret a H1=>
   cases e with
   | returned v=>
    obtain ⟨ρ',hx,hr1,hv1⟩:=hp
    obtain ⟨k1,k2,k3⟩:=hr.outOf s hr1 t
    exact ⟨_,k1,k3,VR.ren (σ:=σ) (ρ:=ρ') (ρ':=ρ.back ρ' H0.n H.n) ⟨fun l x e=>by rw [k2];exact e,fun _ _ e=>e⟩ _ _ hv1⟩
   | panicked ch=>exact hp.elim
   | outgrown=>exact hp.elim
  | pan a H1=>
   cases e with
   | returned v=>exact hp.elim
   | panicked ch=>
    obtain ⟨ρ',u,rfl,hx,hr1,hv1⟩:=hp
    obtain ⟨k1,k2,k3⟩:=hr.outOf s hr1 t
    exact ⟨_,u,rfl,k1,k3,VR.ren (σ:=σ) (ρ:=ρ') (ρ':=ρ.back ρ' H0.n H.n) ⟨fun l x e=>by rw [k2];exact e,fun _ _ e=>e⟩ _ _ hv1⟩
   | outgrown=>exact hp.elim
 rcases h (c.into ρ H0 H σ w) (ρ.turn σ) w vs hG hv0 hr0 with ⟨h1,h2⟩ | ⟨v,w',h1,h2⟩
 ·exact .inl ⟨h1,h2.mono post⟩
 ·exact .inr ⟨v,w',h1,post _ _ h2⟩
end Go.Sx
end
section
namespace Go.Sx
open Go
mutual
def AV.le (σ:Nat→Nat): AV→AV→Prop
 | _,.any=>True
 | .bool a,.bool b=>a=b
 | .int k x,.int k' y=>k=k'∧x=y
 | .str s,.str t=>s=t
 | .ptr a b c d,.ptr a' b' c' d'=>a=σ a'∧b=b'∧c=c'∧d=d'
 | .nilPtr,.nilPtr=>True
 | .slice a b c d e f,.slice a' b' c' d' e' f'=>a=σ a'∧b=b'∧c=c'∧d=d'∧(∀ x,e'=some x→e=some x)∧f=f'
 | .nilSlice,.nilSlice=>True
 | .nilSlice,.own _ n _=>n=0
 | .nilSlice,.fslice n _ _=>n=0
 | .own a b c,.own a' b' c'=>a=σ a'∧b=b'∧c=c'
 | .map none,.map none=>True
 | .map (some a),.map (some b)=>a=σ b
 | .fn f a b,.fn f' a' b'=>f=f'∧AVs.le σ a a'∧AVs.le σ b b'
 | .yield a,.yield b=>a=σ b
 | .nilFn,.nilFn=>True
 | .nilIface,.nilIface=>True
 | .iface t a,.iface t' a'=>t=t'∧AV.le σ a a'
 | .agg a,.agg b=>AVs.le σ a b
 | .tup a,.tup b=>AVs.le σ a b
 | .fptr cs j,.fptr cs' j'=>AVs.le σ cs cs'∧j=j'
 | .fslice n e f,.fslice n' e' g=>n=n'∧e=e'∧ ∀ i,i<n→AVs.le σ (f i) (g i)
 | _,_=>False
def AVs.le (σ:Nat→Nat): List AV→List AV→Prop
 | [],[]=>True
 | a::as,b::bs=>AV.le σ a b∧AVs.le σ as bs
 | _,_=>False
end
theorem Ext.turn {σ:Nat→Nat} {ρ:Env}: Ext ρ.bare (ρ.turn σ).bare:=⟨fun _ _ e=>(by cases e),fun _ _ e=>e⟩
mutual
theorem VR.le {σ:Nat→Nat} {ρ:Env}: ∀ (a b:AV) (v:Value),AV.le σ a b→VR ρ a v→VR (ρ.turn σ) b v
 | .fn f x y,b,v,h,k=>by
  cases b<;>simp only [AV.le] at h
  ·obtain ⟨rfl,h1,h2⟩:=h
   simp only [VR] at k⊢
   obtain ⟨us,vs,e,r,s⟩:=k
   exact ⟨us,vs,e,VRs.le x _ us h1 r,VRs.le y _ vs h2 s⟩
  ·simp only [VR]
 | .iface t x,b,v,h,k=>by
  cases b<;>simp only [AV.le] at h
  ·obtain ⟨rfl,h1⟩:=h
   simp only [VR] at k⊢
   obtain ⟨u,e,r⟩:=k
   exact ⟨u,e,VR.le x _ u h1 r⟩
  ·simp only [VR]
 | .agg cs,b,v,h,k=>by
  cases b<;>simp only [AV.le] at h
  ·simp only [VR] at k⊢
   obtain ⟨vs,e,r⟩:=k
   exact ⟨vs,e,VRs.le cs _ vs h r⟩
  ·simp only [VR]
 | .tup cs,b,v,h,k=>by
  cases b<;>simp only [AV.le] at h
  ·simp only [VR] at k⊢
   obtain ⟨vs,e,r⟩:=k
   exact ⟨vs,e,VRs.le cs _ vs h r⟩
  ·simp only [VR]
 | .fptr cs j,b,v,h,k=>by
  cases b<;>simp only [AV.le] at h
  ·simp only [VR]
  ·obtain ⟨h1,rfl⟩:=h
   simp only [VR] at k⊢
   obtain ⟨b,q,vs,e,r,s⟩:=k
   exact ⟨b,q,vs,e,r.mono fun _ _ e=>e,VRs.le cs _ vs h1 s⟩
 | .fslice n e f,b,v,h,k=>by
  cases b<;>simp only [AV.le] at h
  ·simp only [VR]
  ·obtain ⟨rfl,rfl,h1⟩:=h
   simp only [VR] at k⊢
   rcases k with k | ⟨b,q,c,a,vss,e,r,s⟩
   ·exact .inl k
   ·exact .inr ⟨b,q,c,a,vss,e,r,fun hl=>⟨(s hl).1,(s hl).2.1.mono fun _ _ e=>e,fun i hi=>⟨((s hl).2.2 i hi).1,VRs.le (f i) _ _ (h1 i hi) ((s hl).2.2 i hi).2⟩⟩⟩
 | .bool _,b,v,h,k=>by
  cases b<;>simp only [AV.le] at h<;>first | (simp only [VR];done) | (simp only [VR] at k⊢;exact k) | (subst h;simp only [VR] at k⊢;exact k) | (obtain ⟨rfl,rfl⟩:=h;simp only [VR] at k⊢;exact k) | (obtain ⟨rfl,rfl,rfl,rfl⟩:=h;simp only [VR] at k⊢;exact k)
 | .int _ _,b,v,h,k=>by
  cases b<;>simp only [AV.le] at h<;>first | (simp only [VR];done) | (simp only [VR] at k⊢;exact k) | (subst h;simp only [VR] at k⊢;exact k) | (obtain ⟨rfl,rfl⟩:=h;simp only [VR] at k⊢;exact k) | (obtain ⟨rfl,rfl,rfl,rfl⟩:=h;simp only [VR] at k⊢;exact k)
 | .str _,b,v,h,k=>by
  cases b<;>simp only [AV.le] at h<;>first | (simp only [VR];done) | (simp only [VR] at k⊢;exact k) | (subst h;simp only [VR] at k⊢;exact k) | (obtain ⟨rfl,rfl⟩:=h;simp only [VR] at k⊢;exact k) | (obtain ⟨rfl,rfl,rfl,rfl⟩:=h;simp only [VR] at k⊢;exact k)
 | .nilPtr,b,v,h,k=>by
  cases b<;>simp only [AV.le] at h<;>first | (simp only [VR];done) | (simp only [VR] at k⊢;exact k) | (subst h;simp only [VR] at k⊢;exact k) | (obtain ⟨rfl,rfl⟩:=h;simp only [VR] at k⊢;exact k) | (obtain ⟨rfl,rfl,rfl,rfl⟩:=h;simp only [VR] at k⊢;exact k)
 | .nilFn,b,v,h,k=>by
  cases b<;>simp only [AV.le] at h<;>first | (simp only [VR];done) | (simp only [VR] at k⊢;exact k) | (subst h;simp only [VR] at k⊢;exact k) | (obtain ⟨rfl,rfl⟩:=h;simp only [VR] at k⊢;exact k) | (obtain ⟨rfl,rfl,rfl,rfl⟩:=h;simp only [VR] at k⊢;exact k)
 | .nilIface,b,v,h,k=>by
  cases b<;>simp only [AV.le] at h<;>first | (simp only [VR];done) | (simp only [VR] at k⊢;exact k) | (subst h;simp only [VR] at k⊢;exact k) | (obtain ⟨rfl,rfl⟩:=h;simp only [VR] at k⊢;exact k) | (obtain ⟨rfl,rfl,rfl,rfl⟩:=h;simp only [VR] at k⊢;exact k)
 | .any,b,v,h,k=>by
  cases b<;>simp only [AV.le] at h<;>first | (simp only [VR];done) | (simp only [VR] at k⊢;exact k) | (subst h;simp only [VR] at k⊢;exact k) | (obtain ⟨rfl,rfl⟩:=h;simp only [VR] at k⊢;exact k) | (obtain ⟨rfl,rfl,rfl,rfl⟩:=h;simp only [VR] at k⊢;exact k)
 | .ptr _ _ _ _,b,v,h,k=>by
  cases b<;>simp only [AV.le] at h<;>first | (simp only [VR];done) | (simp only [VR] at k⊢;exact k) | (subst h;simp only [VR] at k⊢;exact k) | (obtain ⟨rfl,rfl⟩:=h;simp only [VR] at k⊢;exact k) | (obtain ⟨rfl,rfl,rfl,rfl⟩:=h;simp only [VR] at k⊢;exact k)
 | .yield _,b,v,h,k=>by
  cases b<;>simp only [AV.le] at h<;>first | (simp only [VR];done) | (simp only [VR] at k⊢;exact k) | (subst h;simp only [VR] at k⊢;exact k) | (obtain ⟨rfl,rfl⟩:=h;simp only [VR] at k⊢;exact k) | (obtain ⟨rfl,rfl,rfl,rfl⟩:=h;simp only [VR] at k⊢;exact k)
 | .nilSlice,b,v,h,k=>by
  cases b<;>simp only [AV.le] at h<;>first | (simp only [VR];done) | (simp only [VR] at k⊢;exact k) | (subst h;simp only [VR] at k⊢;exact .inl ⟨trivial,k⟩) | (simp only [VR] at k⊢;exact .inl ⟨h,k⟩)
 | .own _ _ _,b,v,h,k=>by
  cases b<;>simp only [AV.le] at h<;>first | (simp only [VR];done) | (obtain ⟨rfl,rfl,rfl⟩:=h;simp only [VR] at k⊢;exact k)
 | .map none,b,v,h,k=>by
  cases b with
  | map l=>cases l<;>simp only [AV.le] at h;simp only [VR] at k⊢;exact k
  | any=>simp only [VR]
  | _=>simp only [AV.le] at h
 | .map (some _),b,v,h,k=>by
  cases b with
  | map l=>cases l<;>simp only [AV.le] at h;subst h;simp only [VR] at k⊢;exact k
  | any=>simp only [VR]
  | _=>simp only [AV.le] at h
 | .slice _ _ _ _ _ _,b,v,h,k=>by
  cases b<;>simp only [AV.le] at h
  ·obtain ⟨rfl,rfl,rfl,rfl,hc,rfl⟩:=h
   simp only [VR] at k⊢
   obtain ⟨b,N,c,a,k1,k2,k3,k4,k5⟩:=k
   exact ⟨b,N,c,a,k1,k2,k3,k4,fun x e=>k5 x (hc x e)⟩
  ·simp only [VR]
theorem VRs.le {σ:Nat→Nat} {ρ:Env}: ∀ (as bs:List AV) (vs:List Value),AVs.le σ as bs→VRs ρ as vs→VRs (ρ.turn σ) bs vs
 | [],[],_,_,k=>by simpa only [VRs] using k
 | a::as,b::bs,vs,h,k=>by
  simp only [AVs.le] at h
  simp only [VRs] at k⊢
  obtain ⟨u,us,e,r,s⟩:=k
  exact ⟨u,us,e,VR.le a _ u h.1 r,VRs.le as _ us h.2 s⟩
 | [],_::_,_,h,_=>by simp [AVs.le] at h
 | _::_,[],_,h,_=>by simp [AVs.le] at h
end
theorem AVs.le_length {σ:Nat→Nat}: ∀ {as bs:List AV},AVs.le σ as bs→as.length=bs.length
 | [],[],_=>rfl
 | a::as,b::bs,h=>by
  simp only [AVs.le] at h
  simp [AVs.le_length h.2]
 | [],_::_,h=>by simp [AVs.le] at h
 | _::_,[],h=>by simp [AVs.le] at h
theorem AVs.le_append {σ:Nat→Nat}: ∀ {as bs cs ds:List AV},AVs.le σ as bs→AVs.le σ cs ds→AVs.le σ (as++cs) (bs++ds)
 | [],[],_,_,_,h=>h
 | a::as,b::bs,cs,ds,h,k=>by
  simp only [AVs.le] at h
  exact ⟨h.1,AVs.le_append h.2 k⟩
 | [],_::_,_,_,h,_=>by simp [AVs.le] at h
 | _::_,[],_,_,h,_=>by simp [AVs.le] at h
theorem rowsOf_le {σ:Nat→Nat} {f g:Nat→List AV}: ∀ {n:Nat},(∀ i,i<n→AVs.le σ (f i) (g i))→AVs.le σ (rowsOf n f) (rowsOf n g)
 | 0,_=>by simp [rowsOf,AVs.le]
 | n+1,h=>by
  rw [rowsOf_succ,rowsOf_succ]
  exact AVs.le_append (rowsOf_le fun i hi=>h i (by omega)) (h n (by omega))
def Tr.le (σ:Nat→Nat): Tr AV→Tr AV→Prop
 | _,.e=>True
 | .e,.n l v r=>Tr.le σ .e l∧(match v with | none=>True | some a=>AV.le σ .any a)∧Tr.le σ .e r
 | .n l v r,.n l' v' r'=>Tr.le σ l l'∧(match v,v' with | _,none=>True | some a,some b=>AV.le σ a b | none,some b=>AV.le σ .any b)∧Tr.le σ r r'
theorem Tr.le_get {σ:Nat→Nat}: ∀ {t t':Tr AV},Tr.le σ t t'→ ∀ i,AV.le σ (tget t i) (tget t' i)
 | _,.e,_,i=>by simp [tget,Tr.get_e,AV.le]
 | .e,.n l v r,h,i=>by
  simp only [Tr.le] at h
  have hl:=Tr.le_get h.1
  have hr:=Tr.le_get h.2.2
  simp only [tget,Tr.get] at hl hr⊢
  cases Nat.beq i 0
  ·cases Nat.beq (i%2) 1
   ·exact hr _
   ·exact hl _
  ·cases v with
   | none=>simp [AV.le]
   | some a=>exact h.2.1
 | .n l v r,.n l' v' r',h,i=>by
  simp only [Tr.le] at h
  have hl:=Tr.le_get h.1
  have hr:=Tr.le_get h.2.2
  simp only [tget,Tr.get] at hl hr⊢
  cases Nat.beq i 0
  ·cases Nat.beq (i%2) 1
   ·exact hr _
   ·exact hl _
  ·cases v' with
   | none=>simp [AV.le]
   | some b=>cases v with
    | none=>exact h.2.1
    | some a=>exact h.2.1
def Access.le:Access→Access→Prop
 | .ro,.ro=>True
 | .wr,.wr=>True
 | .ty _,.wr=>True
 | .ty e,.ty e'=>e=e'
 | _,_=>False
theorem Access.le_w : ∀ {a b:Access},a.le b→a.w=b.w
 | .ro,.ro,_=>rfl
 | .wr,.wr,_=>rfl
 | .ty _,.wr,_=>rfl
 | .ty _,.ty _,_=>rfl
 | .ro,.wr,h=>h.elim
 | .ro,.ty _,h=>h.elim
 | .wr,.ro,h=>h.elim
 | .wr,.ty _,h=>h.elim
 | .ty _,.ro,h=>h.elim
theorem AccOk.le {a b:Access} {el:TypeId} {fr:Nat×Nat} {N:Nat} (h:AccOk a el fr N) (k:a.le b): AccOk b el fr N :=
 ⟨fun hw=>h.w (by rw [Access.le_w k];exact hw),fun e he=>by
  subst he
  cases a with
  | ty e'=>simp only [Access.le] at k;subst k;exact h.ty _ rfl
  | _=>exact k.elim⟩
def ABlk.le (σ:Nat→Nat): ABlk→ABlk→Prop
 | _,.dead=>True
 | .cells cs rw,.cells cs' rw'=>AVs.le σ cs cs'∧rw.le rw'
 | .rows n e f rw,.rows n' e' g rw'=>n=n'∧e=e'∧(∀ i,i<n→AVs.le σ (f i) (g i))∧rw.le rw'
 | .cells cs rw,.rows n e g rw'=>cs.length=n*e∧(∀ i,i<n→AVs.le σ ((cs.drop (i*e)).take e) (g i))∧0<e∧rw.le rw'
 | .str s rw,.str s' rw'=>s=s'∧rw.le rw'
 | .rows n _ f rw,.cells cs rw'=>AVs.le σ (rowsOf n f) cs∧rw.le rw'
 | .map es,.map es'=>isMark es=isMark es'∧AVs.le σ ((unmark es).map (·.1)) ((unmark es').map (·.1))∧AVs.le σ ((unmark es).map (·.2)) ((unmark es').map (·.2))
 | .loop st pd t nt ps as bd df,.loop st' pd' t' nt' ps' as' bd' df'=>st=st'∧pd=pd'∧Tr.le σ t t'∧nt=nt'∧ps=ps'∧as=as'∧bd=bd'∧df=σ df'
 | .dfr,.dfr=>True
 | .iter l,.iter l'=>l=σ l'
 | .iset n K,.iset n' K'=>n=n'∧ ∀ i,i<n→K i=K' i
 | .map es,.iset n _=>es=[]∧n=0
 | .iwalk l s S,.iwalk l' s' S'=>l=σ l'∧s=s'∧S=S'
 | _,_=>False
theorem CellsRel.le {σ:Nat→Nat} {ρ:Env} {w:World} {o:Option (Nat×Nat)} {cs ds:List AV} {rw rw':Access} (h:AVs.le σ cs ds) (hrw:rw.le rw') (k:CellsRel ρ w o cs rw): CellsRel (ρ.turn σ) w o ds rw':=by
 rcases k with ⟨rfl,k⟩ | ⟨b,N,vs,rest,el,fr,h1,h2,h3,h4,h5⟩
 ·cases ds with
  | nil=>exact .inl ⟨rfl,k⟩
  | cons=>simp [AVs.le] at h
 ·exact .inr ⟨b,N,vs,rest,el,fr,h1,h2,h3,VRs.le _ _ _ h h4,h5.1.le hrw,h5.2.1,fun e=>h5.2.2 (by cases rw<;>first | rfl | (rw [e] at hrw;exact hrw.elim))⟩
theorem byteCells_le {σ:Nat→Nat} (s:List UInt8): AVs.le σ (byteCells s) (byteCells s)=True:=by
 induction s with
 | nil=>simp [byteCells,AVs.le]
 | cons a s ih=>
  show AVs.le σ (.int .u8 a.toNat::byteCells s) (.int .u8 a.toNat::byteCells s)=True
  simp only [AVs.le,AV.le,ih,and_self]
theorem BlkRel.le {σ:Nat→Nat} {ρ:Env} {w:World} {o:Option (Nat×Nat)} {a b:ABlk} (h:a.le σ b) (k:BlkRel ρ w o a): BlkRel (ρ.turn σ) w o b:=by
 unfold ABlk.le at h
 split at h
 ·trivial
 ·exact CellsRel.le h.1 h.2 k
 ·obtain ⟨rfl,rfl,h,hrw⟩:=h
  exact ⟨fun i hi=>by rw [←AVs.le_length (h i hi)];exact k.1 i hi,CellsRel.le (rowsOf_le h) hrw k.2⟩
 ·rename_i cs rw n e g rw'
  obtain ⟨hl,h,he,hrw⟩:=h
  refine ⟨fun i hi=>?_,?_⟩
  ·have h1:i*e+e≤n*e:=by
    have:=Nat.mul_le_mul_right e (show i+1≤n by omega)
    rw [Nat.succ_mul] at this;exact this
   rw [←AVs.le_length (h i hi)]
   simp only [List.length_take,List.length_drop]
   omega
  ·have hc:=rowsOf_cut (cs:=cs) (o:=0) he (n:=n) (by omega)
   simp only [Nat.zero_add,List.drop_zero] at hc
   rw [←hl,List.take_length] at hc
   refine CellsRel.le (cs:=cs) ?_ hrw k
   rw [←hc]
   exact rowsOf_le h
 ·obtain ⟨rfl,hrw⟩:=h
  exact CellsRel.le (by rw [byteCells_le];trivial) hrw k
 ·exact CellsRel.le h.1 h.2 k.2
 ·rename_i es es'
  obtain ⟨b,N,ms,clock,h1,h2,⟨ms',h3,h4,h5,h6⟩,h7⟩:=k
  refine ⟨b,N,ms,clock,h1,h2,⟨ms',VRs.le _ _ _ h.2.1 h3,VRs.le _ _ _ h.2.2 h4,by rw [←h.1];exact h5,h6⟩,fun e=>h7 ?_⟩
  subst e
  have e1:isMark es=false:=h.1
  have e2:=h.2.1
  rw [unmark_eq e1] at e2
  cases es with
  | nil=>rfl
  | cons x xs=>exact e2.elim
 ·obtain ⟨rfl,rfl,h,rfl,rfl,rfl,rfl,rfl⟩:=h
  obtain ⟨b,N,d,M,fn,vs,h1,h2,h3,h4⟩:=k
  exact ⟨b,N,d,M,fn,vs,h1,h2,⟨h3.1,fun i=>VR.le _ _ _ (Tr.le_get h i) (h3.2 i)⟩,h4⟩
 ·exact k
 ·subst h;exact k
 ·obtain ⟨rfl,h⟩:=h
  rename_i n K K'
  have e:isetMs n K'=isetMs n K:=by
   unfold isetMs
   exact List.map_congr_left fun i hi=>by rw [h i (List.mem_range.1 hi)]
  obtain ⟨b,N,h1,h2⟩:=k
  exact ⟨b,N,h1,by rw [e];exact h2⟩
 ·obtain ⟨rfl,rfl⟩:=h
  obtain ⟨b,N,ms,clock,h1,h2,h3,h4⟩:=k
  obtain ⟨h5,_⟩:=h3.plain rfl
  have e:ms=[]:=by
   cases ms with
   | nil=>rfl
   | cons x xs=>simp [VRs] at h5
  subst e
  rw [h4 rfl] at h2
  exact ⟨b,N,h1,h2⟩
 ·obtain ⟨rfl,rfl,rfl⟩:=h
  exact k
 ·exact h.elim
theorem ABlk.le_rw {σ:Nat→Nat} {a b:ABlk} (h:a.le σ b) (hd:b≠ .dead): a.rw=b.rw:=by
 unfold ABlk.le at h
 split at h
 ·exact absurd rfl hd
 ·exact Access.le_w h.2
 ·exact Access.le_w h.2.2.2
 ·exact Access.le_w h.2.2.2
 ·exact Access.le_w h.2
 ·exact Access.le_w h.2
 ·exact congrArg (fun b=>!b) h.1
 ·rfl
 ·rfl
 ·rfl
 ·rfl
 ·obtain ⟨rfl,_⟩:=h;rfl
 ·rfl
 ·exact h.elim
theorem ABlk.le_live {σ:Nat→Nat} {a b:ABlk} (h:a.le σ b) (hd:b≠ .dead): a≠ .dead:=by
 rintro rfl
 unfold ABlk.le at h
 split at h<;>first | exact hd rfl | exact h | contradiction
def ABlk.nothing:ABlk→Prop
 | .cells cs _=>cs=[]
 | .rows n _ _ _=>n=0
 | .str s _=>s=[]
 | _=>False
theorem BlkRel.of_nothing {ρ:Env} {w:World} {b:ABlk} (h:b.nothing): BlkRel ρ w none b:=by
 cases b with
 | cells cs a=>simp only [ABlk.nothing] at h;subst h;exact .inl ⟨rfl,rfl⟩
 | rows n e f a=>simp only [ABlk.nothing] at h;subst h;exact ⟨fun _ hi=>absurd hi (Nat.not_lt_zero _),.inl ⟨by simp [rowsOf],rfl⟩⟩
 | str s a=>simp only [ABlk.nothing] at h;subst h;exact .inl ⟨rfl,rfl⟩
 | _=>exact h.elim
structure AH.Le (n0:Nat) (σ:Nat→Nat) (H H':AH): Prop where
 n:n0≤H'.n
 id : ∀ l,l<n0→σ l=l
 ge : ∀ l,H'.n≤l→H.n≤σ l
 blk : ∀ l,H'.get l= .dead∨(H.get (σ l)).le σ (H'.get l)∨(H.n≤σ l∧(H'.get l).nothing)
 inj : ∀ l l',H'.get l≠ .dead→H'.get l'≠ .dead→σ l=σ l'→σ l<H.n→l=l'
 low : ∀ l,H'.n≤l→H'.get l= .dead
theorem Rel.view {c:Ctx} {ρ:Env} {n0:Nat} {σ:Nat→Nat} {H H':AH} {w:World} (h:Rel c ρ H w) (s:AH.Le n0 σ H H') (hG:c.G≤n0) (hE : ∀ l,c.E l→l<n0): Rel c (ρ.turn σ) H' w:=by
 have lt : ∀ l r N,ρ (σ l)=some (r,N)→σ l<H.n:=fun l r N e=>Nat.lt_of_not_le fun hle=>by rw [h.top _ hle] at e;cases e
 have live : ∀ l r N,H'.get l≠ .dead→ρ (σ l)=some (r,N)→(H.get (σ l)).le σ (H'.get l):=fun l r N hd h1=>by
  have:=lt l r N h1
  rcases s.blk l with k | k | k
  ·exact absurd k hd
  ·exact k
  ·omega
 refine ⟨fun l=>?_,fun l l' r N N' hne hrw h1 h2=>?_,fun l r N hrw h1=>?_,h.keep,h.size,h.os,h.output,h.tape,fun l hl=>h.top _ (s.ge l hl),fun g hg=>?_,fun l r N hd h1=>?_,fun l hl=>?_,s.low,h.fro,fun l r N hrw h1=>?_,h.frx,h.frk⟩
 ·rcases s.blk l with k | k | ⟨k1,k2⟩
  ·rw [k];trivial
  ·exact BlkRel.le k (h.blk _)
  ·show BlkRel _ _ (ρ (σ l)) _
   rw [h.top _ k1];exact BlkRel.of_nothing k2
 ·apply Classical.byContradiction
  intro hd'
  have k:=live l r N (rw_dead hrw) h1
  have k':=live l' r N' hd' h2
  refine ABlk.le_live k' hd' (h.sep (σ l) (σ l') r N N' (fun e=>hne (s.inj l l' (rw_dead hrw) hd' e (lt l r N h1))) ?_ h1 h2)
  rw [ABlk.le_rw k (rw_dead hrw)];exact hrw
 ·have k:=live l r N (rw_dead hrw) h1
  exact h.prot _ r N (by rw [ABlk.le_rw k (rw_dead hrw)];exact hrw) h1
 ·obtain ⟨N,hN⟩:=h.glob g hg
  exact ⟨N,by show ρ (σ g)=_;rw [s.id g (by omega)];exact hN⟩
 ·exact h.hid _ r N (ABlk.le_live (live l r N hd h1) hd) h1
 ·have hl0:=hE l hl
  obtain ⟨_,h2⟩:=h.env l hl
  exact ⟨Nat.lt_of_lt_of_le hl0 s.n,by show ρ (σ l)=_;rw [s.id l hl0];exact h2⟩
 ·have k:=live l r N (rw_dead hrw) h1
  exact h.frw _ r N (by rw [ABlk.le_rw k (rw_dead hrw)];exact hrw) h1
structure Ext0 (n0:Nat) (ρ ρ':Env): Prop where
 lab : ∀ l,l<n0→ ∀ x,ρ l=some x→ρ' l=some x
 fz : ∀ b vs,ρ.fz b=some vs→ρ'.fz b=some vs
instance {n0:Nat} {ρ ρ':Env}: CoeFun (Ext0 n0 ρ ρ') (fun _=> ∀ l,l<n0→ ∀ x,ρ l=some x→ρ' l=some x):=⟨Ext0.lab⟩
theorem Ext0.trans {n0:Nat} {a b c:Env} (h:Ext0 n0 a b) (k:Ext0 n0 b c): Ext0 n0 a c:=⟨fun l hl x e=>k l hl x (h l hl x e),fun b vs e=>k.fz b vs (h.fz b vs e)⟩
theorem Ext0.of {n0:Nat} {a b:Env} (h:Ext a b): Ext0 n0 a b:=⟨fun l _ x e=>h l x e,h.fz⟩
theorem AH.Le.ext {n0:Nat} {σ:Nat→Nat} {H H':AH} (s:AH.Le n0 σ H H') (ρ:Env): Ext0 n0 ρ (ρ.turn σ):=⟨fun l hl x e=>by show ρ (σ l)=_;rw [s.id l hl];exact e,fun _ _ e=>e⟩
theorem Ext0.ext {c:Ctx} {ρ ρ':Env} {H:AH} {w:World} (h:Ext0 H.n ρ ρ') (hr:Rel c ρ H w): Ext ρ ρ':=⟨fun l x e=>h l (Nat.lt_of_not_le fun hle=>by rw [hr.top l hle] at e;cases e) x e,h.fz⟩
structure St.Le (n0:Nat) (s s':St): Prop where
 le : ∃ σ,AH.Le n0 σ s.H s'.H∧s.nt=s'.nt∧Tr.le σ s.t s'.t∧s.df=s'.df.map σ
theorem DfR.view {ρ:Env} {σ:Nat→Nat}: ∀ {ls:List Nat} {ds:List Deferred},DfR ρ (ls.map σ) ds→DfR (ρ.turn σ) ls ds
 | [],_,h=>h
 | _::_,_,⟨b,N,rest,h1,h2,h3⟩=>⟨b,N,rest,h1,h2,DfR.view h3⟩
theorem SRel.view {c:Ctx} {ρ:Env} {n0:Nat} {s s':St} {a:Act} {w:World} (h:SRel c ρ s a w) (k:St.Le n0 s s') (hG:c.G≤n0) (hE : ∀ l,c.E l→l<n0): ∃ ρ',Ext0 n0 ρ ρ'∧SRel c ρ' s' a w:=by
 obtain ⟨σ,k1,k2,k3,k4⟩:=k.le
 refine ⟨_,k1.ext ρ,⟨h.tmp.1.trans k2,fun i=>VR.le _ _ _ (Tr.le_get k3 i) (h.tmp.2 i)⟩,h.heap.view k1 hG hE,?_⟩
 have:=h.df
 rw [k4] at this
 exact this.view
def AExit.Le (n0:Nat): AExit→AExit→Prop
 | .n s,.n s'=>St.Le n0 s s'
 | .x i s,.x j s'=>i=j∧St.Le n0 s s'
 | .g i s,.g j s'=>i=j∧St.Le n0 s s'
 | .r s,.r s'=>St.Le n0 s s'
 | _,_=>False
def AExit.post0 (n0:Nat) (e:AExit) (c:Ctx) (ρ:Env) (x:Exit) (a:Act) (w:World): Prop :=
 match e,x with
 | .n s,.normal=> ∃ ρ',Ext0 n0 ρ ρ'∧SRel c ρ' s a w
 | .x i s,.exit j=>i=j∧ ∃ ρ',Ext0 n0 ρ ρ'∧SRel c ρ' s a w
 | .g l s,.goto m=>l=m∧ ∃ ρ',Ext0 n0 ρ ρ'∧SRel c ρ' s a w
 | .r s,.ret=> ∃ ρ',Ext0 n0 ρ ρ'∧SRel c ρ' s a w
 | .p v s,.panic ch=> ∃ ρ' u,ch=[{v:=u,recovered:=false}]∧Ext0 n0 ρ ρ'∧SRel c ρ' s a w∧VR ρ' v u
 | _,_=>False
theorem AExit.post0_of {n0:Nat} {e:AExit} {c:Ctx} {ρ:Env} {x:Exit} {a:Act} {w:World} (h:e.post c ρ x a w): e.post0 n0 c ρ x a w:=by
 cases e<;>cases x<;>simp only [AExit.post,AExit.post0] at h⊢
 ·obtain ⟨ρ',h1,h2⟩:=h;exact ⟨ρ',.of h1,h2⟩
 ·obtain ⟨h0,ρ',h1,h2⟩:=h;exact ⟨h0,ρ',.of h1,h2⟩
 ·obtain ⟨h0,ρ',h1,h2⟩:=h;exact ⟨h0,ρ',.of h1,h2⟩
 ·obtain ⟨ρ',h1,h2⟩:=h;exact ⟨ρ',.of h1,h2⟩
 ·obtain ⟨ρ',u,h0,h1,h2⟩:=h;exact ⟨ρ',u,h0,.of h1,h2⟩
theorem AExit.post0_ext {n0:Nat} {e:AExit} {c:Ctx} {ρ ρ1:Env} {x:Exit} {a:Act} {w:World} (hx:Ext0 n0 ρ ρ1) (h:e.post0 n0 c ρ1 x a w): e.post0 n0 c ρ x a w:=by
 cases e<;>cases x<;>simp only [AExit.post0] at h⊢
 ·obtain ⟨ρ',h1,h2⟩:=h;exact ⟨ρ',hx.trans h1,h2⟩
 ·obtain ⟨h0,ρ',h1,h2⟩:=h;exact ⟨h0,ρ',hx.trans h1,h2⟩
 ·obtain ⟨h0,ρ',h1,h2⟩:=h;exact ⟨h0,ρ',hx.trans h1,h2⟩
 ·obtain ⟨ρ',h1,h2⟩:=h;exact ⟨ρ',hx.trans h1,h2⟩
 ·obtain ⟨ρ',u,h0,h1,h2⟩:=h;exact ⟨ρ',u,h0,hx.trans h1,h2⟩
theorem AExit.post0_ext0 {n0:Nat} {e:AExit} {c:Ctx} {ρ:Env} {H:AH} {w0:World} (hr:Rel c ρ H w0) (hn:n0=H.n) {x:Exit} {a:Act} {w:World} (h:e.post0 n0 c ρ x a w): e.post c ρ x a w:=by
 subst hn
 cases e<;>cases x<;>simp only [AExit.post,AExit.post0] at h⊢
 ·obtain ⟨ρ',h1,h2⟩:=h;exact ⟨ρ',h1.ext hr,h2⟩
 ·obtain ⟨h0,ρ',h1,h2⟩:=h;exact ⟨h0,ρ',h1.ext hr,h2⟩
 ·obtain ⟨h0,ρ',h1,h2⟩:=h;exact ⟨h0,ρ',h1.ext hr,h2⟩
 ·obtain ⟨ρ',h1,h2⟩:=h;exact ⟨ρ',h1.ext hr,h2⟩
 ·obtain ⟨ρ',u,h0,h1,h2⟩:=h;exact ⟨ρ',u,h0,h1.ext hr,h2⟩
theorem AExit.post0_le {n0:Nat} {e e':AExit} (k:AExit.Le n0 e e') {c:Ctx} (hG:c.G≤n0) (hE : ∀ l,c.E l→l<n0) {ρ:Env} {x:Exit} {a:Act} {w:World} (h:e.post0 n0 c ρ x a w): e'.post0 n0 c ρ x a w:=by
 cases e<;>cases e'<;>cases x<;>simp only [AExit.Le,AExit.post0] at k h⊢
 ·obtain ⟨ρ',h1,h2⟩:=h
  obtain ⟨ρ2,h3,h4⟩:=h2.view k hG hE
  exact ⟨ρ2,h1.trans h3,h4⟩
 ·obtain ⟨h0,ρ',h1,h2⟩:=h
  obtain ⟨ρ2,h3,h4⟩:=h2.view k.2 hG hE
  exact ⟨k.1.symm.trans h0,ρ2,h1.trans h3,h4⟩
 ·obtain ⟨h0,ρ',h1,h2⟩:=h
  obtain ⟨ρ2,h3,h4⟩:=h2.view k.2 hG hE
  exact ⟨k.1.symm.trans h0,ρ2,h1.trans h3,h4⟩
 ·obtain ⟨ρ',h1,h2⟩:=h
  obtain ⟨ρ2,h3,h4⟩:=h2.view k hG hE
  exact ⟨ρ2,h1.trans h3,h4⟩
def Round {ι:Type} (n0:Nat) (J:ι→Prop) (S:ι→St) (E:ι→AExit) (μ:ι→Nat) (i:ι): AExit→Prop
 | .n s=> ∃ j,J j∧μ j<μ i∧St.Le n0 s (S j)∧E j=E i
 | e=>AExit.Le n0 e (E i)
theorem loop_gives0 {P:Program} {I:Info} {ι:Type} {n0:Nat} {J:ι→Prop} {S:ι→St} {E:ι→AExit} {μ:ι→Nat} {c:Code} {ir:Bool} (hI0:I.G≤n0)
  (step : ∀ i,J i→ ∃ e,TaskGives P I ir (.code c) (S i) e∧Round n0 J S E μ i e):
  ∀ m i,J i→μ i<m→ ∀ t,t= .inLoop c∨t= .code (.loop c)→ ∀ ro n cx ρ a w,(ir=false→ro=none)→cx.G=I.G→(∀ l,cx.E l→l<n0)→SRel cx ρ (S i) a w→TaskWp (WF ro) n P t ((E i).post0 n0 cx ρ) a w:=by
 intro m
 induction m with
 | zero=>intro i _ h;exact absurd h (Nat.not_lt_zero _)
 | succ m ih=>
  intro i hJ hi t ht ro n cx ρ a w hro hG hE hr
  obtain ⟨e,h1,h2⟩:=step i hJ
  refine wp_round t ht ?_
  have hb:c.wpIn (WF ro) n P (e.post cx ρ) a w:=h1 ro n cx ρ a w hro hG hr
  refine wpIn_mono hb fun x a1 w1 hp=>?_
  have hG0:cx.G≤n0:=by rw [hG];exact hI0
  cases e with
  | n s=>
   cases x with
   | normal=>
    obtain ⟨ρ1,hx,hr1⟩:=hp
    obtain ⟨j,hJj,hj,hle,hE'⟩:=h2
    obtain ⟨ρ2,h3,h4⟩:=hr1.view hle hG0 hE
    have:=ih j hJj (by omega) (.inLoop c) (.inl rfl) ro n cx ρ2 a1 w1 hro hG hE h4
    rw [hE'] at this
    exact this.mono fun x a w hp=>AExit.post0_ext ((Ext0.of hx).trans h3) hp
   | _=>exact hp.elim
  | x i s=>
   cases x with
   | exit id=>exact AExit.post0_le h2 hG0 hE (AExit.post0_of hp)
   | _=>exact hp.elim
  | g i s=>
   cases x with
   | goto id=>exact AExit.post0_le h2 hG0 hE (AExit.post0_of hp)
   | _=>exact hp.elim
  | r s=>
   cases x with
   | ret=>exact AExit.post0_le h2 hG0 hE (AExit.post0_of hp)
   | _=>exact hp.elim
  | p v s=>simp only [Round,AExit.Le] at h2
theorem loop_gives {P:Program} {I:Info} {ι:Type} {s:St} {J:ι→Prop} {S:ι→St} {E:ι→AExit} (μ:ι→Nat) {c:Code} {ir:Bool} {i:ι} (hI0:I.G≤s.H.n) (hJ:J i) (start:St.Le s.H.n s (S i))
  (step : ∀ i,J i→ ∃ e,TaskGives P I ir (.code c) (S i) e∧Round s.H.n J S E μ i e): TaskGives P I ir (.code (.loop c)) s (E i):=by
 intro ro n cx ρ a w hro hG hr
 have hE : ∀ l,cx.E l→l<s.H.n:=fun l hl=>(hr.heap.env l hl).1
 obtain ⟨ρ1,h1,h2⟩:=hr.view start (by rw [hG];exact hI0) hE
 have:=loop_gives0 hI0 step (μ i+1) i hJ (Nat.lt_succ_self _) _ (.inr rfl) ro n cx ρ1 a w hro hG hE h2
 exact this.mono fun x a w hp=>AExit.post0_ext0 hr.heap rfl (AExit.post0_ext h1 hp)
end Go.Sx
end
section
namespace Go.Sx
open Go
theorem Oper.wpIn_monoQ {F:Fence} {n:Nat} {P:Program} {o:Oper} {a:Act} {w:World} {K:Act→World→Prop} {Q Q':Exit→Act→World→Prop} (h : ∀ x a w,x≠ .normal→Q x a w→Q' x a w)
  (hh:o.wpIn F n P a w K Q): o.wpIn F n P a w K Q':=by
 unfold Oper.wpIn at*
 refine ⟨hh.1,?_⟩
 have hh:=hh.2
 have out:LetsOut Q→LetsOut Q':=fun ⟨a,w,e⟩=>⟨a,w,h _ _ _ (by simp) e⟩
 generalize (o.semAt F.round a.eval).run P w=r at*
 cases r with
 | ok x w'=>
  cases x<;>simp only [Oper.uponIn] at hh⊢ <;>
   first
    | exact hh
    | exact ⟨hh.1,CallsIn.mono hh.2 (fun e w'' he=>by cases e<;>first | exact h _ _ _ (by simp) he | exact out he | exact he)⟩
    | exact ⟨hh.1,RoundIn.mono hh.2 (fun e w'' he=>by cases e<;>first | exact h _ _ _ (by simp) he | exact out he | exact he)⟩
 | halt x w'=>cases x<;>simp only [Oper.uponIn] at hh⊢ <;>first | exact h _ _ _ (by simp) hh | exact hh
section
variable {P:Program} {I:Info} {ops:Array Oper} {o:Oper}
theorem pop_get (hb:ops.back? =some o): ops.size=ops.pop.size+1∧ops[ops.pop.size]? =some o∧ ∀ i,i<ops.pop.size→ops.pop[i]? =ops[i]? :=by
 have h0:ops.size≠0:=fun e=>by
  have:ops= #[]:=Array.eq_empty_of_size_eq_zero e
  subst this;simp at hb
 refine ⟨by simp;omega,?_,fun i hi=>?_⟩
 ·rw [Array.back?_eq_getElem?] at hb
  simpa using hb
 ·rw [Array.getElem?_pop]
  simp at hi
  rw [if_pos (by omega)]
theorem any_tail {ro:Option Nat} {n:Nat} {Q1 Q:Exit→Act→World→Prop} (hb:ops.back? =some o) (hplan:planOk I ops (planOf ops)=true) (hplan':planOk I ops.pop (planOf ops.pop)=true)
  (hall : ∀ i,i<ops.pop.size→(planOf ops).pre i ops.pop.size=true) (hg : ∀ o'∈ops.pop.toList,∀ j b,o'.guard=some (j,b)→j<ops.pop.size)
  (hQ : ∀ x a w,x≠ .normal→Q1 x a w→Q x a w) (hN : ∀ a w,Q1 .normal a w→wpOpIn (WF ro) n P ops Q ops.pop.size (fun a w=>Q .normal a w) a w):
  ∀ (fuel:Nat) (listed:Array Bool) (a:Act) (w:World),listed.size=ops.pop.size→
   (∀ j o',ops.pop[j]? =some o'→Lst listed j→ ∀ e∈o'.after,Region.binds .any e=true→Lst listed e.on)→
   wpAnyIn (WF ro) n P .any ops.pop Q1 fuel listed a w→wpAnyIn (WF ro) n P .any ops Q (fuel+1) (listed.push false) a w:=by
 obtain ⟨hsz,hlast,hpop⟩:=pop_get hb
 have lstPush : ∀ (listed:Array Bool) (b:Bool) i,i<listed.size→(Lst (listed.push b) i↔Lst listed i):=fun listed b i hi=>by
  unfold Lst
  rw [Array.getD_eq_getD_getElem?,Array.getD_eq_getD_getElem?,Array.getElem?_push,if_neg (by omega)]
 have edge : ∀ j o',ops[j]? =some o'→ ∀ e∈o'.after,Region.binds .any e=true→e.on<j:=fun j o' ho e he hb=>plan_edge hplan ho he hb
 have rdy : ∀ (listed:Array Bool) i,listed.size=ops.pop.size→i<ops.pop.size→(i∈Region.ready .any ops (listed.push false)↔i∈Region.ready .any ops.pop listed):=by
  intro listed i hls hi
  rw [mem_ready,mem_ready,hpop i hi]
  have e1:(listed.push false).getD i true=listed.getD i true:=by
   rw [Array.getD_eq_getD_getElem?,Array.getD_eq_getD_getElem?,Array.getElem?_push,if_neg (by omega)]
  rw [e1]
  constructor
  ·rintro ⟨h1,o',ho,h2⟩
   refine ⟨h1,o',ho,fun e he hb=>?_⟩
   have:=edge i o' ho e he hb
   have h3:=h2 e he hb
   exact (lstPush listed false e.on (by omega)).1 h3
  ·rintro ⟨h1,o',ho,h2⟩
   refine ⟨h1,o',ho,fun e he hb=>?_⟩
   have:=edge i o' ho e he hb
   exact (lstPush listed false e.on (by omega)).2 (h2 e he hb)
 have lastRdy : ∀ (listed:Array Bool),listed.size=ops.pop.size→(∀ i,i<ops.pop.size→Lst listed i)→ops.pop.size∈Region.ready .any ops (listed.push false):=by
  intro listed hls hl
  rw [mem_ready]
  refine ⟨?_,o,hlast,fun e he hb=>?_⟩
  ·rw [Array.getD_eq_getD_getElem?,Array.getElem?_push,if_pos (by omega)];rfl
  ·have:=edge _ o hlast e he hb
   exact (lstPush listed false e.on (by omega)).2 (hl e.on this)
 have done : ∀ (listed:Array Bool),listed.size=ops.pop.size→(∀ i,i<ops.pop.size→Lst listed i)→Region.ready .any ops ((listed.push false).setIfInBounds ops.pop.size true)=[]:=by
  intro listed hls hl
  apply List.eq_nil_iff_forall_not_mem.2
  intro i hi
  rw [mem_ready] at hi
  obtain ⟨h1,o',ho,_⟩:=hi
  have hik:=(Array.getElem?_eq_some_iff.1 ho).1
  by_cases e:i=ops.pop.size
  ·subst e
   rw [Array.getD_eq_getD_getElem?,Array.getElem?_setIfInBounds] at h1
   simp [hls] at h1
  ·have:=hl i (by omega)
   unfold Lst at this
   rw [Array.getD_eq_getD_getElem?,Array.getElem?_setIfInBounds,if_neg (fun e'=>e e'.symm),Array.getElem?_push,if_neg (by omega)] at h1
   rw [Array.getD_eq_getD_getElem?,Array.getElem?_eq_getElem (by omega)] at this
   rw [Array.getElem?_eq_getElem (by omega)] at h1
   simp at h1 this
   rw [h1] at this;cases this
 have allOf : ∀ (listed:Array Bool),listed.size=ops.pop.size→(∀ j o',ops.pop[j]? =some o'→Lst listed j→ ∀ e∈o'.after,Region.binds .any e=true→Lst listed e.on)→ops.pop.size∈Region.ready .any ops (listed.push false)→ ∀ i,i<ops.pop.size→Lst listed i:=by
  intro listed hls hcl hr i hi
  rw [mem_ready] at hr
  obtain ⟨_,o',ho,h2⟩:=hr
  refine plan_closed (listed:=Lst listed) hplan (fun j o'' hj hl e he hb=>?_) ho (fun e he hb=>?_) i (hall i hi)
  ·have hjl:j<ops.pop.size:=by
    rcases Nat.lt_or_ge j ops.pop.size with h | h
    ·exact h
    ·unfold Lst at hl
     rw [Array.getD_eq_getD_getElem?,Array.getElem?_eq_none (by omega)] at hl
     cases hl
   exact hcl j o'' (by rw [hpop j hjl];exact hj) hl e he hb
  ·have:=edge _ o' ho e he hb
   exact (lstPush listed false e.on (by omega)).1 (h2 e he hb)
 have noneAll : ∀ (listed:Array Bool),listed.size=ops.pop.size→Region.ready .any ops.pop listed=[]→ ∀ i,i<ops.pop.size→Lst listed i:=by
  intro listed hls hr i
  induction i using Nat.strongRecOn with
  | _ i ih=>
   intro hi
   apply Classical.byContradiction
   intro hn
   have:i∈Region.ready .any ops.pop listed:=by
    refine mem_ready.2 ⟨?_,ops.pop[i],Array.getElem?_eq_getElem hi,fun e he hb=>?_⟩
    ·unfold Lst at hn
     rw [Array.getD_eq_getD_getElem?,Array.getElem?_eq_getElem (by omega)] at hn⊢
     simpa using hn
    ·have hlt:=plan_edge hplan' (Array.getElem?_eq_getElem hi) he hb
     exact ih e.on hlt (by omega)
   rw [hr] at this
   cases this
 have last : ∀ (fuel:Nat) (listed:Array Bool) (a:Act) (w:World),listed.size=ops.pop.size→(∀ i,i<ops.pop.size→Lst listed i)→Q1 .normal a w→
   wpOpIn (WF ro) n P ops Q ops.pop.size (wpAnyIn (WF ro) n P .any ops Q fuel ((listed.push false).setIfInBounds ops.pop.size true)) a w:=by
  intro fuel listed a w hls hl hq
  have hd:=done listed hls hl
  have hK : ∀ a w,Q .normal a w→wpAnyIn (WF ro) n P .any ops Q fuel ((listed.push false).setIfInBounds ops.pop.size true) a w:=fun a w hq=>by
   cases fuel with
   | zero=>exact ⟨hd,hq⟩
   | succ fuel=>exact ⟨fun _=>hq,fun i hi=>by rw [hd] at hi;cases hi⟩
  have:=hN a w hq
  unfold wpOpIn at this⊢
  rw [hlast] at this⊢
  simp only at this⊢
  split at this
  ·rename_i hw
   rw [if_pos hw]
   exact Oper.wpIn_mono hK this
  ·rename_i hw
   rw [if_neg hw]
   exact ⟨this.1,hK _ _ this.2⟩
 intro fuel
 induction fuel with
 | zero=>
  intro listed a w hls hcl h
  obtain ⟨h1,h2⟩:=h
  have hl:=noneAll listed hls h1
  refine ⟨fun hr=>?_,fun i hi=>?_⟩
  ·have:=lastRdy listed hls hl
   rw [hr] at this;cases this
  ·by_cases e:i<ops.pop.size
   ·have:=(rdy listed i hls e).1 hi
    rw [h1] at this;cases this
   ·obtain ⟨_,o',ho,_⟩:=mem_ready.1 hi
    have:i<ops.size:=(Array.getElem?_eq_some_iff.1 ho).1
    have e2:i=ops.pop.size:=by omega
    subst e2
    exact last 0 listed a w hls hl h2
 | succ fuel ih=>
  intro listed a w hls hcl h
  obtain ⟨h1,h2⟩:=h
  refine ⟨fun hr=>?_,fun i hi=>?_⟩
  ·have hno:Region.ready .any ops.pop listed=[]:=by
    apply List.eq_nil_iff_forall_not_mem.2
    intro i hi
    obtain ⟨_,o',ho,_⟩:=mem_ready.1 hi
    have hik:=(Array.getElem?_eq_some_iff.1 ho).1
    have:=(rdy listed i hls hik).2 hi
    rw [hr] at this;cases this
   have:=lastRdy listed hls (noneAll listed hls hno)
   rw [hr] at this;cases this
  ·by_cases e:i<ops.pop.size
   ·have hi':=(rdy listed i hls e).1 hi
    have h3:=h2 i hi'
    obtain ⟨_,o',ho',hed⟩:=mem_ready.1 hi'
    have hset:(listed.push false).setIfInBounds i true=(listed.setIfInBounds i true).push false:=by
     apply Array.ext'
     simp only [Array.toList_setIfInBounds,Array.toList_push]
     rw [List.set_append_left _ _ (by simp;omega)]
    have hcl' : ∀ j o'',ops.pop[j]? =some o''→Lst (listed.setIfInBounds i true) j→ ∀ e∈o''.after,Region.binds .any e=true→Lst (listed.setIfInBounds i true) e.on:=by
     have hs : ∀ j,Lst (listed.setIfInBounds i true) j↔j=i∨Lst listed j:=fun j=>by
      unfold Lst
      by_cases e:j=i
      ·subst e
       simp [Array.getD_eq_getD_getElem?,show j<listed.size by omega]
      ·simp only [Array.getD_eq_getD_getElem?,Array.getElem?_setIfInBounds]
       rw [if_neg (fun e'=>e e'.symm)]
       simp [e]
     intro j o'' hj hl ed he hb
     refine (hs _).2 (.inr ?_)
     rcases (hs j).1 hl with rfl | hl
     ·rw [ho'] at hj;cases hj
      exact hed ed he hb
     ·exact hcl j o'' hj hl ed he hb
    have hK : ∀ a w,wpAnyIn (WF ro) n P .any ops.pop Q1 fuel (listed.setIfInBounds i true) a w→wpAnyIn (WF ro) n P .any ops Q (fuel+1) ((listed.push false).setIfInBounds i true) a w:=fun a w h=>by
     rw [hset]
     exact ih _ a w (by simp [hls]) hcl' h
    have hwant:Region.wanted o' (yielded ops a.tmps)=Region.wanted o' (yielded ops.pop a.tmps):=by
     unfold Region.wanted
     cases hgd:o'.guard with
     | none=>rfl
     | some jb=>
      obtain ⟨j,b⟩:=jb
      have hm:o'∈ops.pop.toList:=by
       rw [List.mem_iff_getElem?]
       exact ⟨i,by rw [Array.getElem?_toList];exact ho'⟩
      have:=hg o' hm j b hgd
      simp only [yielded,hpop j this]
    unfold wpOpIn at h3⊢
    rw [←hpop i e]
    rw [ho'] at h3⊢
    simp only at h3⊢
    rw [hwant]
    split at h3
    ·rename_i hw
     rw [if_pos hw]
     exact Oper.wpIn_monoQ hQ (Oper.wpIn_mono hK h3)
    ·rename_i hw
     rw [if_neg hw]
     exact ⟨h3.1,hK _ _ h3.2⟩
   ·obtain ⟨_,o',ho,_⟩:=mem_ready.1 hi
    have:i<ops.size:=(Array.getElem?_eq_some_iff.1 ho).1
    have e2:i=ops.pop.size:=by omega
    subst e2
    have hl:=allOf listed hls hcl hi
    have hno:Region.ready .any ops.pop listed=[]:=by
     apply List.eq_nil_iff_forall_not_mem.2
     intro i hi
     obtain ⟨h0,o',ho,_⟩:=mem_ready.1 hi
     have hik:=(Array.getElem?_eq_some_iff.1 ho).1
     have:=hl i hik
     unfold Lst at this
     rw [Array.getD_eq_getD_getElem?,Array.getElem?_eq_getElem (by omega)] at h0 this
     simp at h0 this
     rw [h0] at this;cases this
    exact last (fuel+1) listed a w hls hl (h1 hno)
end
section
variable {R:Type} {X:RI R} {sem:R→Prop} (hX:X.Ok sem) {I:Info} {P:Program} (hI:I.Ok P)
include hX hI in
theorem drawn2_ok (N:Nat): DrawerOk P I sem (drawn2 X I N):=by
 intro call round hcall hround ops k s h
 unfold drawn2 at h
 cases ht:tailOk I ops with
 | false=>rw [ht] at h;exact drawn_ok hX hI N call round hcall hround ops k s h
 | true=>
  rw [ht,cond_true] at h
  obtain ⟨sf,h1,h2⟩:=drawn_any hX hI N hcall hround h
  unfold tailOk at ht
  split at ht
  ·cases ht
  ·rename_i o hb
   simp only [Bool.and_eq_true] at ht
   obtain ⟨⟨⟨⟨_,hp⟩,hp'⟩,hall⟩,hg⟩:=ht
   obtain ⟨hsz,hlast,hpop⟩:=pop_get hb
   simp only [hb] at h1
   have hdrop:ops.toList.drop ops.pop.size=[o]:=by
    have e1:ops.toList=ops.pop.toList++[o]:=by
     apply List.ext_getElem?
     intro i
     rcases Nat.lt_trichotomy i ops.pop.size with e | e | e
     ·rw [List.getElem?_append_left (by simpa using e),Array.getElem?_toList,Array.getElem?_toList,hpop i e]
     ·subst e
      rw [List.getElem?_append_right (by simp),Array.getElem?_toList,hlast]
      simp
     ·rw [List.getElem?_eq_none (by simp at e⊢;omega),List.getElem?_eq_none (by simp at e⊢;omega)]
    rw [e1,List.drop_append_of_le_length (by simp),List.drop_of_length_le (by simp)]
    rfl
   obtain ⟨e,h3,h4⟩:=rops_ok hX hI hcall hround [o] ops.pop.size sf hdrop h1
   refine ⟨e,h3,fun ro n c ρ a w id hG hr=>wpIn_region_any hI.mixed ?_⟩
   have hany:=h2 ro n c ρ a w hG hr
   have hrep:Array.replicate ops.size false=(Array.replicate ops.pop.size false).push false:=by
    apply Array.ext'
    rw [hsz]
    simp [List.replicate_succ']
   rw [hrep,hsz]
   refine any_tail (Q1:=(AExit.n sf).post c ρ) (Q:=e.post c ρ) hb hp hp' (fun i hi=>List.all_eq_true.1 hall i (List.mem_range.2 hi)) (fun o' ho' j b hgd=>?_) (fun x a w hx hq=>?_) (fun a w hq=>?_) ops.pop.size _ a _ (by simp) (fun j o' _ hl=>?_) hany
   ·have:=List.all_eq_true.1 hg o' ho'
    rw [hgd] at this
    simpa using this
   ·cases x<;>first | exact absurd rfl hx | exact hq.elim
   ·obtain ⟨ρ',hx,hr'⟩:=hq
    have:=h4 ro n c ρ' a w (e.post c ρ) hG hr' fun x a' w' hp=>AExit.post_ext hx hp
    have e1:List.range' ops.pop.size [o].length=[ops.pop.size]:=rfl
    rw [e1,wpOpsIn_cons] at this
    exact this
   ·exfalso
    unfold Lst at hl
    rw [Array.getD_eq_getD_getElem?,Array.getElem?_replicate] at hl
    by_cases hj:j<ops.pop.size
    ·rw [if_pos hj] at hl;cases hl
    ·rw [if_neg hj] at hl;cases hl
end
section
variable {P:Program} {I:Info} {ops:Array Oper} {o:Oper} {y:Nat}
theorem any_cut {ro:Option Nat} {n:Nat} {Q1 Q:Exit→Act→World→Prop} (hy:ops[y]? =some o) (hplan:planOk I ops (planOf ops)=true) (hplan':planOk I (ops.extract 0 y) (planOf (ops.extract 0 y))=true)
  (hall : ∀ i,i<y→(planOf ops).pre i y=true) (haft : ∀ i,y<i→i<ops.size→(planOf ops).pre y i=true) (hg : ∀ o'∈(ops.extract 0 y).toList,∀ j b,o'.guard=some (j,b)→j<y)
  (hQ : ∀ x a w,x≠ .normal→Q1 x a w→Q x a w) (hN : ∀ a w,Q1 .normal a w→wpOpIn (WF ro) n P ops Q y (fun _ _=>False) a w) (m:Nat):
  ∀ (fuel:Nat) (listed L:Array Bool) (a:Act) (w:World),listed.size=y→L.size=ops.size→(∀ i,i<y→(Lst L i↔Lst listed i))→(∀ i,y≤i→ ¬ Lst L i)→
   (∀ j o',(ops.extract 0 y)[j]? =some o'→Lst listed j→ ∀ e∈o'.after,Region.binds .any e=true→Lst listed e.on)→
   wpAnyIn (WF ro) n P .any (ops.extract 0 y) Q1 fuel listed a w→wpAnyIn (WF ro) n P .any ops Q (fuel+(m+1)) L a w:=by
 have hyk:y<ops.size:=(Array.getElem?_eq_some_iff.1 hy).1
 have hps:(ops.extract 0 y).size=y:=by simp;omega
 have hpop : ∀ i,i<y→(ops.extract 0 y)[i]? =ops[i]? :=fun i hi=>by
  rw [Array.getElem?_extract]
  simp;omega
 have edge : ∀ j o',ops[j]? =some o'→ ∀ e∈o'.after,Region.binds .any e=true→e.on<j:=fun j o' ho e he hb=>plan_edge hplan ho he hb
 have unl : ∀ (L:Array Bool) i,i<L.size→(L.getD i true=false↔ ¬ Lst L i):=fun L i hi=>by
  unfold Lst
  rw [Array.getD_eq_getD_getElem?,Array.getD_eq_getD_getElem?,Array.getElem?_eq_getElem hi]
  simp
 have rdy : ∀ (listed L:Array Bool) i,listed.size=y→L.size=ops.size→(∀ i,i<y→(Lst L i↔Lst listed i))→i<y→(i∈Region.ready .any ops L↔i∈Region.ready .any (ops.extract 0 y) listed):=by
  intro listed L i hls hL hrel hi
  rw [mem_ready,mem_ready,hpop i hi,unl L i (by omega),unl listed i (by omega),hrel i hi]
  constructor
  ·rintro ⟨h1,o',ho,h2⟩
   refine ⟨h1,o',ho,fun e he hb=>?_⟩
   have:=edge i o' ho e he hb
   exact (hrel e.on (by omega)).1 (h2 e he hb)
  ·rintro ⟨h1,o',ho,h2⟩
   refine ⟨h1,o',ho,fun e he hb=>?_⟩
   have:=edge i o' ho e he hb
   exact (hrel e.on (by omega)).2 (h2 e he hb)
 have cutRdy : ∀ (listed L:Array Bool),L.size=ops.size→(∀ i,i<y→(Lst L i↔Lst listed i))→(∀ i,y≤i→ ¬ Lst L i)→(∀ i,i<y→Lst listed i)→y∈Region.ready .any ops L:=by
  intro listed L hL hrel hno hl
  rw [mem_ready,unl L y (by omega)]
  refine ⟨hno y (Nat.le_refl _),o,hy,fun e he hb=>?_⟩
  have:=edge _ o hy e he hb
  exact (hrel e.on (by omega)).2 (hl e.on (by omega))
 have clos : ∀ (listed L:Array Bool),(∀ i,i<y→(Lst L i↔Lst listed i))→(∀ i,y≤i→ ¬ Lst L i)→(∀ j o',(ops.extract 0 y)[j]? =some o'→Lst listed j→ ∀ e∈o'.after,Region.binds .any e=true→Lst listed e.on)→
   ∀ j o',ops[j]? =some o'→Lst L j→ ∀ e∈o'.after,Region.binds .any e=true→Lst L e.on:=by
  intro listed L hrel hno hcl j o' hj hl e he hb
  have hjl:j<y:=Nat.lt_of_not_le fun hle=>hno j hle hl
  have:=edge j o' hj e he hb
  exact (hrel e.on (by omega)).2 (hcl j o' (by rw [hpop j hjl];exact hj) ((hrel j hjl).1 hl) e he hb)
 have notAfter : ∀ (listed L:Array Bool),L.size=ops.size→(∀ i,i<y→(Lst L i↔Lst listed i))→(∀ i,y≤i→ ¬ Lst L i)→(∀ j o',(ops.extract 0 y)[j]? =some o'→Lst listed j→ ∀ e∈o'.after,Region.binds .any e=true→Lst listed e.on)→
   ∀ i,i∈Region.ready .any ops L→ ¬ i<y→i=y:=by
  intro listed L hL hrel hno hcl i hi hiy
  obtain ⟨_,o',ho,h2⟩:=mem_ready.1 hi
  have hik:=(Array.getElem?_eq_some_iff.1 ho).1
  apply Classical.byContradiction
  intro hne
  exact hno y (Nat.le_refl _) (plan_closed (listed:=Lst L) hplan (clos listed L hrel hno hcl) ho (fun e he hb=>h2 e he hb) y (haft i (by omega) hik))
 have noneAll : ∀ (listed:Array Bool),listed.size=y→Region.ready .any (ops.extract 0 y) listed=[]→ ∀ i,i<y→Lst listed i:=by
  intro listed hls hr i
  induction i using Nat.strongRecOn with
  | _ i ih=>
   intro hi
   apply Classical.byContradiction
   intro hn
   have:i∈Region.ready .any (ops.extract 0 y) listed:=by
    refine mem_ready.2 ⟨(unl listed i (by omega)).2 hn,(ops.extract 0 y)[i]'(by omega),Array.getElem?_eq_getElem (by omega),fun e he hb=>?_⟩
    have hlt:=plan_edge hplan' (Array.getElem?_eq_getElem (by omega)) he hb
    exact ih e.on hlt (by omega)
   rw [hr] at this
   cases this
 have allOf : ∀ (listed L:Array Bool),listed.size=y→L.size=ops.size→(∀ i,i<y→(Lst L i↔Lst listed i))→(∀ i,y≤i→ ¬ Lst L i)→(∀ j o',(ops.extract 0 y)[j]? =some o'→Lst listed j→ ∀ e∈o'.after,Region.binds .any e=true→Lst listed e.on)→
   y∈Region.ready .any ops L→ ∀ i,i<y→Lst listed i:=by
  intro listed L hls hL hrel hno hcl hr i hi
  obtain ⟨_,o',ho,h2⟩:=mem_ready.1 hr
  exact (hrel i hi).1 (plan_closed (listed:=Lst L) hplan (clos listed L hrel hno hcl) ho (fun e he hb=>h2 e he hb) i (hall i hi))
 have last : ∀ (K:Act→World→Prop) (a:Act) (w:World),Q1 .normal a w→wpOpIn (WF ro) n P ops Q y K a w:=by
  intro K a w hq
  have:=hN a w hq
  unfold wpOpIn at this⊢
  rw [hy] at this⊢
  simp only at this⊢
  split at this
  ·rename_i hw
   rw [if_pos hw]
   exact Oper.wpIn_mono (fun _ _ h=>h.elim) this
  ·exact this.2.elim
 have noReady : ∀ (listed L:Array Bool),listed.size=y→L.size=ops.size→(∀ i,i<y→(Lst L i↔Lst listed i))→(∀ i,y≤i→ ¬ Lst L i)→Region.ready .any ops L≠[]:=by
  intro listed L hls hL hrel hno hr
  have hn:Region.ready .any (ops.extract 0 y) listed=[]:=by
   apply List.eq_nil_iff_forall_not_mem.2
   intro i hi
   obtain ⟨_,o',ho,_⟩:=mem_ready.1 hi
   have hik:=(Array.getElem?_eq_some_iff.1 ho).1
   have:=(rdy listed L i hls hL hrel (by omega)).2 hi
   rw [hr] at this;cases this
  have:=cutRdy listed L hL hrel hno (noneAll listed hls hn)
  rw [hr] at this;cases this
 intro fuel
 induction fuel with
 | zero=>
  intro listed L a w hls hL hrel hno hcl h
  obtain ⟨h1,h2⟩:=h
  rw [Nat.zero_add]
  refine ⟨fun hr=>absurd hr (noReady listed L hls hL hrel hno),fun i hi=>?_⟩
  by_cases e:i<y
  ·have:=(rdy listed L i hls hL hrel e).1 hi
   rw [h1] at this;cases this
  ·have:=notAfter listed L hL hrel hno hcl i hi e
   subst this
   exact last _ a w h2
 | succ fuel ih=>
  intro listed L a w hls hL hrel hno hcl h
  obtain ⟨h1,h2⟩:=h
  have e1:fuel+1+(m+1)=(fuel+(m+1))+1:=by omega
  rw [e1]
  refine ⟨fun hr=>absurd hr (noReady listed L hls hL hrel hno),fun i hi=>?_⟩
  by_cases e:i<y
  ·have hi':=(rdy listed L i hls hL hrel e).1 hi
   have h3:=h2 i hi'
   obtain ⟨_,o',ho',hed⟩:=mem_ready.1 hi'
   have hs : ∀ (A:Array Bool) j,i<A.size→(Lst (A.setIfInBounds i true) j↔j=i∨Lst A j):=fun A j hA=>by
    unfold Lst
    by_cases e:j=i
    ·subst e
     simp [Array.getD_eq_getD_getElem?,hA]
    ·simp only [Array.getD_eq_getD_getElem?,Array.getElem?_setIfInBounds]
     rw [if_neg (fun e'=>e e'.symm)]
     simp [e]
   have hK : ∀ a w,wpAnyIn (WF ro) n P .any (ops.extract 0 y) Q1 fuel (listed.setIfInBounds i true) a w→wpAnyIn (WF ro) n P .any ops Q (fuel+(m+1)) (L.setIfInBounds i true) a w:=fun a w h=>by
    refine ih _ _ a w (by simp [hls]) (by simp [hL]) (fun j hj=>?_) (fun j hj hl=>?_) (fun j o'' hj hl ed he hb=>?_) h
    ·rw [hs L j (by omega),hs listed j (by omega),hrel j hj]
    ·rcases (hs L j (by omega)).1 hl with e2 | e2
     ·omega
     ·exact hno j hj e2
    ·refine (hs listed _ (by omega)).2 (.inr ?_)
     rcases (hs listed j (by omega)).1 hl with rfl | hl
     ·rw [ho'] at hj;cases hj
      exact hed ed he hb
     ·exact hcl j o'' hj hl ed he hb
   have hwant:Region.wanted o' (yielded ops a.tmps)=Region.wanted o' (yielded (ops.extract 0 y) a.tmps):=by
    unfold Region.wanted
    cases hgd:o'.guard with
    | none=>rfl
    | some jb=>
     obtain ⟨j,b⟩:=jb
     have hm:o'∈(ops.extract 0 y).toList:=by
      rw [List.mem_iff_getElem?]
      exact ⟨i,by rw [Array.getElem?_toList];exact ho'⟩
     have:=hg o' hm j b hgd
     simp only [yielded,hpop j this]
   unfold wpOpIn at h3⊢
   rw [←hpop i e]
   rw [ho'] at h3⊢
   simp only at h3⊢
   rw [hwant]
   split at h3
   ·rename_i hw
    rw [if_pos hw]
    exact Oper.wpIn_monoQ hQ (Oper.wpIn_mono hK h3)
   ·rename_i hw
    rw [if_neg hw]
    exact ⟨h3.1,hK _ _ h3.2⟩
  ·have:=notAfter listed L hL hrel hno hcl i hi e
   subst this
   have hl:=allOf listed L hls hL hrel hno hcl hi
   have hn:Region.ready .any (ops.extract 0 i) listed=[]:=by
    apply List.eq_nil_iff_forall_not_mem.2
    intro j hj
    obtain ⟨h0,o',ho,_⟩:=mem_ready.1 hj
    have hjk:=(Array.getElem?_eq_some_iff.1 ho).1
    exact (unl listed j (by omega)).1 h0 (hl j (by omega))
   exact last _ a w (h1 hn)
end
def cutAt (pans:List Nat): List Oper→Nat→Option Nat
 | [],_=>none
 | o::os,i=>match o.op with
  | .call {callee:=.value (.func f),..}=>bif memN pans f then some i else cutAt pans os (i+1)
  | _=>cutAt pans os (i+1)
def cutOk (I:Info) (ops:Array Oper) (y:Nat): Bool :=
 planOk I ops (planOf ops)&&planOk I (ops.extract 0 y) (planOf (ops.extract 0 y))&&(List.range y).all (fun i=>(planOf ops).pre i y)&&(List.range ops.size).all (fun i=>!Nat.blt y i||(planOf ops).pre y i)&&
  (ops.extract 0 y).toList.all (fun o=>match o.guard with | none=>true | some (j,_)=>Nat.blt j y)
section
variable {R:Type} (X:RI R) (I:Info)
def drawn3 (N:Nat) (pans:List Nat): Drawer R:=fun call round ops k s=>
 match cutAt pans ops.toList 0 with
 | none=>drawn2 X I N call round ops k s
 | some y=>match ops[y]? with
  | none=>X.fail
  | some o=>bif cutOk I ops y then
    drawn X I N call round (ops.extract 0 y) {k with n:=fun s'=>rops X I call round ops {k with n:=fun _=>drawn2 X I N call round ops k s} [o] s'} s
   else drawn2 X I N call round ops k s
end
section
variable {R:Type} {X:RI R} {sem:R→Prop} (hX:X.Ok sem) {I:Info} {P:Program} (hI:I.Ok P)
include hX hI in
theorem rops_one {call:Caller R} (hcall:CallerOk P I sem call) {round:Rounder R} (hround:RounderOk P I sem round) {ops:Array Oper} {k:KS R} {o:Oper} {y:Nat} (hy:ops[y]? =some o) {s:St} (h:sem (rops X I call round ops k [o] s)):
  ∃ e:AExit,e.sem sem k∧((∃ s',e= .n s')∨ ∃ v s',e= .p v s')∧ ∀ ro n c ρ a w,c.G=I.G→SRel c ρ s a w→wpOpIn (WF ro) n P ops (e.post c ρ) y (fun a w=>e.post c ρ .normal a w) a w:=by
 have run : ∀ s:St,sem (aop X I call round o (s.ev I.G) s.H (fun a H=>rops X I call round ops k [] ((s.heap H).put o.dst a)) (fun a H=>k.p a (s.heap H)))→
   ∃ e:AExit,e.sem sem k∧((∃ s',e= .n s')∨ ∃ v s',e= .p v s')∧ ∀ ro n c ρ a w,c.G=I.G→SRel c ρ s a w→Region.wanted o (yielded ops a.tmps)=true→wpOpIn (WF ro) n P ops (e.post c ρ) y (fun a w=>e.post c ρ .normal a w) a w:=by
  intro s h
  obtain ⟨out,h1,h2⟩:=aop_ok hX hI hcall hround h
  cases out with
  | ret v H'=>
   refine ⟨.n _,h1,.inl ⟨_,rfl⟩,fun ro n c ρ a w hG hr hw=>?_⟩
   unfold wpOpIn
   rw [hy]
   simp only [hw,if_true]
   refine h2 ro n c ρ w a _ _ hG (hr.ev hG) hr.heap (fun v2 H2 u w' ρ' e2 hx hr' hv=>?_) fun v2 H2 u w' ρ' e2=>by cases e2
   cases e2
   exact ⟨ρ',hx,hr.put hx hr' hv o.dst⟩
  | pan v H'=>
   refine ⟨.p v (s.heap H'),h1,.inr ⟨_,_,rfl⟩,fun ro n c ρ a w hG hr hw=>?_⟩
   unfold wpOpIn
   rw [hy]
   simp only [hw,if_true]
   refine h2 ro n c ρ w a _ _ hG (hr.ev hG) hr.heap (fun v2 H2 u w' ρ' e2=>by cases e2) fun v2 H2 u w' ρ' e2 hx hr' hv=>?_
   cases e2
   exact ⟨ρ',u,rfl,hx,⟨hr.tmp.ext hx,hr',hr.df.ext hx⟩,hv⟩
 have skip : ∀ s:St,sem (rops X I call round ops k [] (s.put o.dst (.tup [])))→
   ∃ e:AExit,e.sem sem k∧((∃ s',e= .n s')∨ ∃ v s',e= .p v s')∧ ∀ ro n c ρ a w,c.G=I.G→SRel c ρ s a w→Region.wanted o (yielded ops a.tmps)=false→wpOpIn (WF ro) n P ops (e.post c ρ) y (fun a w=>e.post c ρ .normal a w) a w:=by
  intro s h
  refine ⟨.n _,h,.inl ⟨_,rfl⟩,fun ro n c ρ a w hG hr hw=>?_⟩
  unfold wpOpIn
  rw [hy]
  simp only [hw,Bool.false_eq_true,if_false]
  exact ⟨fun _ _=>trivial,ρ,Ext.refl ρ,hr.put (Ext.refl ρ) hr.heap VR_undef o.dst⟩
 simp only [rops] at h
 split at h
 ·rename_i hg
  obtain ⟨e,h1,h2,h3⟩:=run s h
  exact ⟨e,h1,h2,fun ro n c ρ a w hG hr=>h3 ro n c ρ a w hG hr (by simp [Region.wanted,hg])⟩
 ·rename_i j want hg
  split at h
  ·exact absurd h hX.fail
  ·rename_i d hd
   split at h
   ·rename_i b hb
    have hc:=hX.cond _ _ _ h
    have hwant : ∀ c ρ a w,SRel c ρ s a w→Region.wanted o (yielded ops a.tmps)=(b==want):=fun c ρ a w hr=>wanted_of hg hd (by
     have:=hr.tmp.2 d
     rw [hb] at this
     simpa only [VR] using this)
    have lit : ∀ c ρ a w,SRel c ρ s a w→SRel c ρ (s.put (some d) (.bool b)) a w:=fun c ρ a w hr=>hr.lit hb
    cases b<;>cases want<;>simp only [if_true,Bool.false_eq_true,if_false,cond_true,cond_false] at hc
    ·obtain ⟨e,h1,h2,h3⟩:=run _ hc
     exact ⟨e,h1,h2,fun ro n c ρ a w hG hr=>h3 ro n c ρ a w hG (lit c ρ a w hr) (by rw [hwant c ρ a w hr];rfl)⟩
    ·obtain ⟨e,h1,h2,h3⟩:=skip _ hc
     exact ⟨e,h1,h2,fun ro n c ρ a w hG hr=>h3 ro n c ρ a w hG (lit c ρ a w hr) (by rw [hwant c ρ a w hr];rfl)⟩
    ·obtain ⟨e,h1,h2,h3⟩:=skip _ hc
     exact ⟨e,h1,h2,fun ro n c ρ a w hG hr=>h3 ro n c ρ a w hG (lit c ρ a w hr) (by rw [hwant c ρ a w hr];rfl)⟩
    ·obtain ⟨e,h1,h2,h3⟩:=run _ hc
     exact ⟨e,h1,h2,fun ro n c ρ a w hG hr=>h3 ro n c ρ a w hG (lit c ρ a w hr) (by rw [hwant c ρ a w hr];rfl)⟩
   ·rename_i hb
    obtain ⟨e,h1,h2,h3⟩:=skip s h
    refine ⟨e,h1,h2,fun ro n c ρ a w hG hr=>h3 ro n c ρ a w hG hr (wanted_undef hg hd ?_)⟩
    have:=hr.tmp.2 d
    rw [hb] at this
    simp only [VR] at this
    obtain ⟨vs,h5,h6⟩:=this
    simp only [VRs] at h6
    subst h6
    exact h5
   ·exact absurd h hX.fail
include hX hI in
theorem drawn3_ok (N:Nat) (pans:List Nat): DrawerOk P I sem (drawn3 X I N pans):=by
 intro call round hcall hround ops k s h
 unfold drawn3 at h
 split at h
 ·exact drawn2_ok hX hI N call round hcall hround ops k s h
 ·rename_i y hcut
  split at h
  ·exact absurd h hX.fail
  ·rename_i o hy
   cases hc:cutOk I ops y with
   | false=>rw [hc] at h;exact drawn2_ok hX hI N call round hcall hround ops k s h
   | true=>
    rw [hc,cond_true] at h
    obtain ⟨sf,h1,h2⟩:=drawn_any hX hI N hcall hround h
    unfold cutOk at hc
    simp only [Bool.and_eq_true] at hc
    obtain ⟨⟨⟨⟨hp,hp'⟩,hall⟩,haft⟩,hg⟩:=hc
    have hyk:y<ops.size:=(Array.getElem?_eq_some_iff.1 hy).1
    have hps:(ops.extract 0 y).size=y:=by simp;omega
    obtain ⟨e,h3,hnp,h4⟩:=rops_one hX hI hcall hround hy h1
    cases e with
    | n s2=>exact drawn2_ok hX hI N call round hcall hround ops k s h3
    | p v s2=>
     refine ⟨.p v s2,h3,fun ro n c ρ a w id hG hr=>wpIn_region_any hI.mixed ?_⟩
     have hany:=h2 ro n c ρ a w hG hr
     rw [hps] at hany
     have hL : ∀ m i,¬ Lst (Array.replicate m false) i:=fun m i hl=>by
      unfold Lst at hl
      rw [Array.getD_eq_getD_getElem?,Array.getElem?_replicate] at hl
      by_cases hj:i<m
      ·rw [if_pos hj] at hl;cases hl
      ·rw [if_neg hj] at hl;cases hl
     obtain ⟨m,hm⟩: ∃ m,ops.size=y+(m+1):=⟨ops.size-y-1,by omega⟩
     have:=any_cut (Q1:=(AExit.n sf).post c ρ) (Q:=(AExit.p v s2).post c ρ) hy hp hp' (fun i hi=>List.all_eq_true.1 hall i (List.mem_range.2 hi)) (fun i h1 h2=>?_) (fun o' ho' j b hgd=>?_) (fun x a w hx hq=>?_) (fun a w hq=>?_) m y _ (Array.replicate ops.size false) a _ (by simp) (by simp) (fun i hi=>?_) (fun i _=>hL _ i) (fun j o' _ hl=>absurd hl (hL _ j)) hany
     ·rw [←hm] at this;exact this
     ·have:=List.all_eq_true.1 haft i (List.mem_range.2 h2)
      have hb:Nat.blt y i=true:=by rw [Nat.blt_eq];exact h1
      rw [hb] at this
      simpa using this
     ·have:=List.all_eq_true.1 hg o' ho'
      rw [hgd] at this
      simpa using this
     ·cases x<;>first | exact absurd rfl hx | exact hq.elim
     ·obtain ⟨ρ',hx,hr'⟩:=hq
      have h5:=h4 ro n c ρ' a w hG hr'
      unfold wpOpIn at h5⊢
      rw [hy] at h5⊢
      simp only at h5⊢
      split at h5
      ·rename_i hw
       rw [if_pos hw]
       exact Oper.wpIn_monoQ (fun x a w _ hp=>AExit.post_ext hx hp) (Oper.wpIn_mono (fun _ _ h=>h.elim) h5)
      ·exact h5.2.elim
     ·exact ⟨fun h=>absurd h (hL _ i),fun h=>absurd h (hL _ i)⟩
    | x i s2=>rcases hnp with ⟨_,e⟩ | ⟨_,_,e⟩<;>cases e
    | g i s2=>rcases hnp with ⟨_,e⟩ | ⟨_,_,e⟩<;>cases e
    | r s2=>rcases hnp with ⟨_,e⟩ | ⟨_,_,e⟩<;>cases e
end
end Go.Sx
end
section
namespace Go.Sx
open Go
structure ByCall (P:Program) (I:Info) (f:FuncId) (args:List AV) (H:AH) (kn kp:AV→AH→Prop): Prop where
 h : ∃ o,CallGives P I f args H o∧o.sem id kn kp
theorem ByCall.ret {P:Program} {I:Info} {f:FuncId} {args:List AV} {H H':AH} {a:AV} {kn kp:AV→AH→Prop} (h:CallGives P I f args H (.ret a H')) (k:kn a H'): ByCall P I f args H kn kp:=⟨_,h,k⟩
theorem ByCall.pan {P:Program} {I:Info} {f:FuncId} {args:List AV} {H H':AH} {a:AV} {kn kp:AV→AH→Prop} (h:CallGives P I f args H (.pan a H')) (k:kp a H'): ByCall P I f args H kn kp:=⟨_,h,k⟩
def gam (P:Program) (I:Info) (fs:List Nat): FuncId→Option (Spec Prop):=fun f=>
 bif memN fs f then some (ByCall P I f) else none
theorem gam_ok (P:Program) (I:Info) (fs:List Nat): SpecsOk P I id (gam P I fs):=by
 intro f s h args H kn kp hs
 unfold gam at h
 cases hm:memN fs f with
 | false=>rw [hm] at h;cases h
 | true=>
  rw [hm] at h
  simp only [cond_true,Option.some.injEq] at h
  subst h
  obtain ⟨o,h1,h2⟩:=hs.h
  exact ⟨o,h2,h1⟩
def loopKey:Code→Nat
 | .region id ops _=>1000*id+ops.size
 | .seq a _=>loopKey a
 | .block _ c=>loopKey c
 | .scope c=>loopKey c
 | .loop c=>loopKey c
 | _=>0
structure ByLoop (P:Program) (I:Info) (ir:Bool) (c:Code) (s:St) (k:KS Prop): Prop where
 h : ∃ e,TaskGives P I ir (.code (.loop c)) s e∧e.sem id k
def lam (P:Program) (I:Info) (ks:List Nat): Loops Prop:=fun ir c s=>
 bif memN ks (loopKey c) then some (ByLoop P I ir c s) else none
theorem lam_ok (P:Program) (I:Info) (ks:List Nat): LoopsOk P I id (lam P I ks):=by
 intro ir c s g h k hs
 unfold lam at h
 cases hm:memN ks (loopKey c) with
 | false=>rw [hm] at h;cases h
 | true=>
  rw [hm] at h
  simp only [cond_true,Option.some.injEq] at h
  subst h
  obtain ⟨e,h1,h2⟩:=hs.h
  exact ⟨e,h2,h1⟩
def bigN:Nat:=1000000000000
def prun (P:Program) (I:Info) (fs ks:List Nat) (fuel:Nat): Runner Prop:=run RI.prop I (gam P I fs) (lam P I ks) (drawn3 RI.prop I bigN [54,55]) fuel
theorem prun_ok {P:Program} {I:Info} (hI:I.Ok P) (fs ks:List Nat) (fuel:Nat): RunOk P I id (prun P I fs ks fuel):=
 run_ok RI.prop_ok hI (gam_ok P I fs) (lam_ok P I ks) (drawn3_ok RI.prop_ok hI bigN [54,55]) fuel
structure ResLe (n0:Nat) (a:AV) (H:AH) (a':AV) (H':AH): Prop where
 le : ∃ σ,AH.Le n0 σ H H'∧AV.le σ a a'
theorem CallGives.le {P:Program} {I:Info} {f:FuncId} {args:List AV} {H H1 H':AH} {a a':AV} (h:CallGives P I f args H (.ret a H1)) (k:ResLe H.n a H1 a' H'): CallGives P I f args H (.ret a' H'):=by
 obtain ⟨σ,k1,k2⟩:=k.le
 intro c ρ w vs hG hv hr
 have post : ∀ e w',(CO.ret a H1).post c ρ e w'→(CO.ret a' H').post c ρ e w':=by
  intro e w' hp
  cases e with
  | returned v=>
   obtain ⟨ρ',hx,hr1,hv1⟩:=hp
   have hG':c.G≤H.n:=by
    refine Nat.le_of_not_lt fun hlt=>?_
    obtain ⟨N,hN⟩:=hr.glob H.n hlt
    rw [hr.top _ (Nat.le_refl _)] at hN;cases hN
   refine ⟨_,((Ext0.of hx).trans (k1.ext ρ')).ext hr,hr1.view k1 hG' fun l hl=>(hr.env l hl).1,VR.le _ _ _ k2 hv1⟩
  | panicked ch=>exact hp.elim
  | outgrown=>exact hp.elim
 rcases h c ρ w vs hG hv hr with ⟨h1,h2⟩ | ⟨v,w',h1,h2⟩
 ·exact .inl ⟨h1,h2.mono post⟩
 ·exact .inr ⟨v,w',h1,post _ _ h2⟩
structure Again {ι:Type} (n0:Nat) (J:ι→Prop) (S:ι→St) (E:ι→AExit) (μ:ι→Nat) (i:ι) (s:St): Prop where
 h : ∃ j,J j∧μ j<μ i∧St.Le n0 s (S j)∧E j=E i
theorem Again.of {ι:Type} {n0:Nat} {J:ι→Prop} {S:ι→St} {E:ι→AExit} {μ:ι→Nat} {i:ι} {s:St} (j:ι) (h1:J j) (h2:μ j<μ i) (h3:E j=E i) (h4:St.Le n0 s (S j)): Again n0 J S E μ i s:=⟨j,h1,h2,h4,h3⟩
def roundK {ι:Type} (n0:Nat) (J:ι→Prop) (S:ι→St) (E:ι→AExit) (μ:ι→Nat) (i:ι): KS Prop :=
 {n:=fun s=>Again n0 J S E μ i s
  x:=fun b s=>AExit.Le n0 (.x b s) (E i)
  g:=fun b s=>AExit.Le n0 (.g b s) (E i)
  r:=fun s=>AExit.Le n0 (.r s) (E i)
  p:=fun _ _=>False}
theorem ByLoop.run {P:Program} {I:Info} (hI:I.Ok P) (fs ks:List Nat) (fuel:Nat) {ι:Type} {s:St} {c:Code} {ir:Bool} {k:KS Prop} (J:ι→Prop) (S:ι→St) (E:ι→AExit) (μ:ι→Nat) (i:ι) (hI0:Nat.ble I.G s.H.n=true) (hJ:J i) (start:St.Le s.H.n s (S i))
  (step : ∀ i,J i→prun P I fs ks fuel ir (.code c) (S i) (roundK s.H.n J S E μ i)) (hk:(E i).sem id k): ByLoop P I ir c s k:=by
 refine ⟨E i,loop_gives μ (Nat.le_of_ble_eq_true hI0) hJ start fun i hi=>?_,hk⟩
 obtain ⟨e,h1,h2⟩:=prun_ok hI fs ks fuel _ _ _ _ (step i hi)
 refine ⟨e,h2,?_⟩
 cases e<;>first | exact h1.h | exact h1 | exact h1.elim
def allN (p:Nat→Prop): Nat→Prop:=fun n=>Nat.rec (motive:=fun _=>Prop) True (fun i acc=>acc∧p i) n
theorem allN_iff {p:Nat→Prop}: ∀ {n:Nat},allN p n↔ ∀ i,i<n→p i
 | 0=>⟨fun _ i h=>absurd h (Nat.not_lt_zero _),fun _=>trivial⟩
 | n+1=>by
  constructor
  ·rintro ⟨h1,h2⟩ i hi
   by_cases e:i=n
   ·subst e;exact h2
   ·exact allN_iff.1 h1 i (by omega)
  ·intro h
   exact ⟨allN_iff.2 fun i hi=>h i (by omega),h n (by omega)⟩
def sig (n0:Nat) (labs:List Nat) (N l:Nat): Nat:=bif Nat.blt l n0 then l else match labs[l-n0]? with
 | some x=>x
 | none=>N+l
def okBlk (σ:Nat→Nat) (N l:Nat) (H:AH): ABlk→Prop
 | .dead=>True
 | b=>if σ l<N then (H.get (σ l)).le σ b else b.nothing
def nodupN:List Nat→Bool
 | []=>true
 | a::as=>bif memN as a then false else nodupN as
def Tr.belowB {α:Type} (N:Nat): Tr α→(Nat→Nat)→Bool
 | .e,_=>true
 | .n l v r,f=>(match v with | none=>true | some _=>Nat.blt (f 0) N)&&l.belowB N (fun i=>f (2*i+1))&&r.belowB N (fun i=>f (2*i+2))
theorem Tr.below_get {α:Type} {N:Nat}: ∀ {t:Tr α} {f:Nat→Nat},t.belowB N f=true→ ∀ i,N≤f i→t.get i=none
 | .e,_,_,_,_=>rfl
 | .n l v r,f,h,i,hi=>by
  simp only [Tr.belowB,Bool.and_eq_true] at h
  simp only [Tr.get]
  cases h0:Nat.beq i 0 with
  | true=>
   have:=Nat.eq_of_beq_eq_true h0
   subst this
   cases v with
   | none=>rfl
   | some x=>
    have:=h.1.1
    rw [Nat.blt_eq] at this
    omega
  | false=>
   have hne:i≠0:=fun e=>by subst e;cases h0
   cases h1:Nat.beq (i%2) 1 with
   | true=>
    have hm:=Nat.eq_of_beq_eq_true h1
    exact Tr.below_get h.1.2 (i/2) (by
     show N≤f (2*(i/2)+1)
     have:2*(i/2)+1=i:=by omega
     rw [this];exact hi)
   | false=>
    have hm:i%2≠1:=fun e=>by rw [e] at h1;cases h1
    exact Tr.below_get h.2 (i/2-1) (by
     show N≤f (2*(i/2-1)+2)
     have:2*(i/2-1)+2=i:=by omega
     rw [this];exact hi)
def AH.lowB (H:AH): Bool:=H.t.belowB H.n (fun i=>i)
theorem AH.low_of {H:AH} (h:H.lowB=true): ∀ l,H.n≤l→H.get l= .dead:=fun l hl=>by
 have:=Tr.below_get h l hl
 simp only [AH.get,this]
def ABlk.isDead:ABlk→Bool
 | .dead=>true
 | _=>false
theorem ABlk.isDead_ok {b:ABlk} (h:b.isDead=true): b= .dead:=by cases b<;>first | rfl | cases h
structure HeapLe (n0:Nat) (labs:List Nat) (H H':AH): Prop where
 n:n0+labs.length=H'.n
 ge:(labs.all fun x=>Nat.ble n0 x||(H'.get x).isDead)=true
 nodup:nodupN labs=true
 low:H'.lowB=true
 n1:n0≤H.n
 blk:allN (fun l=>okBlk (sig n0 labs H.n) H.n l H (H'.get l)) H'.n
theorem nodupN_get : ∀ {l:List Nat} (_:nodupN l=true) {i j x:Nat},l[i]? =some x→l[j]? =some x→i=j
 | [],_,i,j,x,h1,_=>by simp at h1
 | a::as,h,i,j,x,h1,h2=>by
  simp only [nodupN] at h
  cases hm:memN as a with
  | true=>rw [hm] at h;cases h
  | false=>
   rw [hm,cond_false] at h
   have na:a∉as:=fun e=>by rw [memN_iff.2 e] at hm;cases hm
   cases i with
   | zero=>
    cases j with
    | zero=>rfl
    | succ j=>
     simp at h1 h2
     subst h1
     exact absurd (List.mem_of_getElem? h2) na
   | succ i=>
    cases j with
    | zero=>
     simp at h1 h2
     subst h2
     exact absurd (List.mem_of_getElem? h1) na
    | succ j=>
     simp at h1 h2
     rw [nodupN_get h h1 h2]
theorem sig_lt {n0 N l:Nat} {labs:List Nat} (h:l<n0): sig n0 labs N l=l:=by
 have:Nat.blt l n0=true:=by rw [Nat.blt_eq];exact h
 simp [sig,this]
theorem sig_ge {n0 N l:Nat} {labs:List Nat} (h:n0≤l): sig n0 labs N l=match labs[l-n0]? with | some x=>x | none=>N+l:=by
 have:Nat.blt l n0=false:=by rw [Bool.eq_false_iff];intro e;rw [Nat.blt_eq] at e;omega
 simp [sig,this]
theorem HeapLe.of {n0:Nat} {labs:List Nat} {H H':AH} (h1:n0+labs.length=H'.n) (h2:(labs.all fun x=>Nat.ble n0 x||(H'.get x).isDead)=true) (h3:nodupN labs=true) (h4:H'.lowB=true) (h5:Nat.ble n0 H.n=true)
  (h6:allN (fun l=>okBlk (sig n0 labs H.n) H.n l H (H'.get l)) H'.n): HeapLe n0 labs H H':=⟨h1,h2,h3,h4,Nat.le_of_ble_eq_true h5,h6⟩
theorem HeapLe.le {n0:Nat} {labs:List Nat} {H H':AH} (h:HeapLe n0 labs H H'): AH.Le n0 (sig n0 labs H.n) H H':=by
 have hlow:=AH.low_of h.low
 refine ⟨by have:=h.n;omega,fun l hl=>sig_lt hl,fun l hl=>?_,fun l=>?_,fun l l' hd hd' e hlt=>?_,hlow⟩
 ·have:=h.n
  rw [sig_ge (by omega),List.getElem?_eq_none (by omega)]
  simp
 ·by_cases hl:l<H'.n
  ·have:=allN_iff.1 h.blk l hl
   unfold okBlk at this
   split at this
   ·rename_i e;exact .inl e
   ·split at this
    ·exact .inr (.inl this)
    ·rename_i hge;exact .inr (.inr ⟨Nat.le_of_not_lt hge,this⟩)
  ·exact .inl (hlow l (Nat.le_of_not_lt hl))
 ·have far : ∀ l,n0≤l→(sig n0 labs H.n l)<H.n→ ∃ x,labs[l-n0]? =some x∧sig n0 labs H.n l=x:=fun l hl hlt=>by
   rw [sig_ge hl] at hlt⊢
   cases hx:labs[l-n0]? with
   | none=>exact absurd hlt (by rw [hx];exact Nat.not_lt.2 (Nat.le_add_right _ _))
   | some x=>exact ⟨x,rfl,rfl⟩
  have ge : ∀ x,x∈labs→H'.get x≠ .dead→n0≤x:=fun x hx hne=>by
   have:=List.all_eq_true.1 h.ge x hx
   simp only [Bool.or_eq_true] at this
   rcases this with k | k
   ·exact Nat.le_of_ble_eq_true k
   ·exact absurd (ABlk.isDead_ok k) hne
  by_cases h1:l<n0
  ·rw [sig_lt h1] at e
   by_cases h2:l'<n0
   ·rw [sig_lt h2] at e;exact e
   ·obtain ⟨x,hx1,hx2⟩:=far l' (Nat.le_of_not_lt h2) (by rw [←e];have:=h.n1;omega)
    have:=ge x (List.mem_of_getElem? hx1) (by rw [←hx2,←e];exact hd)
    omega
  ·obtain ⟨x,hx1,hx2⟩:=far l (Nat.le_of_not_lt h1) hlt
   by_cases h2:l'<n0
   ·rw [sig_lt h2] at e
    have:=ge x (List.mem_of_getElem? hx1) (by rw [←hx2,e];exact hd')
    omega
   ·obtain ⟨y,hy1,hy2⟩:=far l' (Nat.le_of_not_lt h2) (by rw [←e];exact hlt)
    have exy:x=y:=by rw [←hx2,←hy2,e]
    subst exy
    have:=nodupN_get h.nodup hx1 hy1
    omega
theorem St.le_of {n0:Nat} {s s':St} (labs:List Nat) (h:HeapLe n0 labs s.H s'.H) (hnt:s.nt=s'.nt) (ht:Tr.le (sig n0 labs s.H.n) s.t s'.t) (hdf:s.df=s'.df.map (sig n0 labs s.H.n)): St.Le n0 s s' :=
 ⟨⟨_,h.le,hnt,ht,hdf⟩⟩
theorem ResLe.of {n0:Nat} {a a':AV} {H H':AH} (labs:List Nat) (h:HeapLe n0 labs H H') (hv:AV.le (sig n0 labs H.n) a a'): ResLe n0 a H a' H':=⟨⟨_,h.le,hv⟩⟩
end Go.Sx
end
