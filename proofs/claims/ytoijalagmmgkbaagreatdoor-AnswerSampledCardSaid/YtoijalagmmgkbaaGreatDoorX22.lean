/- Lemmas, part 22. -/
import Derived.Test.YtoijalagmmgkbaaGreatDoorX21
set_option linter.all false
set_option linter.defProp false
set_option maxRecDepth 1000000
namespace Go.Sx
open Go
open List renaming beq->M
open Go.IntKind renaming i64->z
open Nat renaming blt->a_,pos_of_ne_zero->b_,div_le_self->c_,mod_lt->e_,mul_comm->g_,zero_mul->h_,le_of_lt->i_,mul_le_mul_left->l_,gcd_one_right->n_,div_add_mod->p_,mul_assoc->s_,ble->t_,add_comm->u_,add_mul->v_,mul_pos->w_,beq->z_
open Tr renaming ofList->d_
open AV renaming int->f_,str->k_,qP->x_
open Bool renaming and_self->j_,not_eq_false'->m_
noncomputable section
def Vq(n:Nat)(F:Nat->ay):GE:=.one (.x 0 {t:=d_ [(4,.own 12 n 10)],nt:=30,H:={n:=13,t:=d_ [(12,.rows n 10 (λj=>eD (F j)) (.ty 48))]},df:=[]})
def EL{ι:Type}(n0 l:Nat)(J:ι->Prop)(S:ι->St)(E:ι->aQ)(a:ι->Nat)(i:ι):aQ->Prop
 | .g b s=>b=l/\∃j,J j/\a j<a i/\St.Le n0 s (S j)/\E j=E i
 |e=>aQ.Le n0 e (E i)
def Ay{P:Program}{I:ba}{ι:Type}{n0 l:Nat}{J:ι->Prop}{S:ι->St}{E:ι->aQ}{H:ι->Nat}{r c:Code}{ir:Bool}(u:I.G<=n0)(K:findLabel c l=Option.some r)
  (k:∀i,J i->∃e,Dj P I ir (.code r) (S i) e/\EL n0 l J S E H i e):
  ∀m i,J i->H i<m->∀ro n f ρ a w,(ir=false->ro=Option.none)->f.G=I.G->(∀l,f.E l->l<n0)->cA f ρ (S i) a w->fG (WF ro) n P (.inScope r c) ((E i).kx n0 f ρ) a w:=by
 intro m
 induction m with
 |zero=>omega
 |succ m L=>
  intro i N hi ro n f ρ a w o hG q Q
  obtain⟨e,R,t⟩:=k i N
  refine iR ?_
  have T:r.wpIn (WF ro) n P (e.post f ρ) a w:=R ro n f ρ a w o hG Q
  refine wpIn_mono T λx a1 U d=>?_
  have h:f.G<=n0:=by rw[hG];exact u
  cases e with
  |n s=>
   cases x with
   |normal=>exact aQ.jk t h q (aQ.ji d)
   |_=>exact d.elim
  |x i s=>
   cases x with
   |exit id=>exact aQ.jk t h q (aQ.ji d)
   |_=>exact d.elim
  |g b s=>
   cases x with
   |goto id=>
    obtain⟨rfl,V,hx,y⟩:=d
    obtain⟨rfl,j,B,Y,C,D⟩:=t
    obtain⟨F,W,X⟩:=y.view C h q
    have:=L j B O ro n f F a1 U o hG q X
    rw[D]at this
    simp only[mC,K]
    exact this.mono λx a w d=>aQ.ja ((OK.of hx).trans W) d
   |_=>exact d.elim
  |r s=>
   cases x with
   |ret=>exact aQ.jk t h q (aQ.ji d)
   |_=>exact d.elim
  |p v s=>simp only[EL,aQ.Le]at t
def Ck{P I ι s l J S E}(j){r c ir}{i:ι}(b:I.G<=s.H.n)(o:findLabel c l=Option.some r)(p:J i)(start:St.Le s.H.n s (S i))
  (d:∀i,J i->∃e,Dj P I ir (.code r) (S i) e/\EL s.H.n l J S E j i e):Dj P I ir (.inScope r c) s (E i):=by
 intro ro n k ρ a w f hG g
 have m:∀l,k.E l->l<s.H.n:=λl hl=>(g.heap.env l hl).1
 obtain⟨h,q,t⟩:=g.view start (by rw[hG];exact b) m
 have:=Ay b o d (j i+1) i p (Nat.lt_succ_self _) ro n k h a w f hG m t
 exact this.mono λx a w u=>aQ.nG g.heap A (aQ.ja q u)
def SH{ι:Type}(n0 l:Nat)(S:ι->St)(E:ι->GE)(a:ι->ι)(Q:Prop)(i:ι):KS Prop :=
 {n:=λs=>(E i).meets n0 (.n s)
  x:=λb s=>(E i).meets n0 (.x b s)
  g:=λb s=>aa (z_ b l) (mF n0 s (S (a i)) Q)
  r:=λs=>(E i).meets n0 (.r s)
  p:=λ_ _=>False}
def nJ.of{P I}(hI:I.Ok P)(ks:List (aC P I)){t}(o:eR P I id t)(fuel){ι r c ir}(n0 l:Nat)(J:ι->Prop)(S)(E)(j:ι->Nat)(d)(i0)
  (u:t_ I.G n0=true) (v:findLabel c l=Option.some r) (w:J i0)
  (m:∀i,J i->uA ks t fuel ir (.code r) (S i) (SH n0 l S E d (J (d i)/\j (d i)<j i/\(E (d i)).pick=(E i).pick) i)):nJ P I ir r c n0 (S i0) (E i0) where
 h s0 q y:=by
  subst q
  refine Ck (S:=S) (E:=λi=>(E i).pick) (J:=J) (l:=l) j ZD v w y λi hi=>?_
  obtain⟨e,f,B⟩:=nH hI ks o fuel ir _ _ _ (m i hi)
  refine⟨e,B,?_⟩
  cases e with
  |n s=>exact GE.fg (g:=E i) f
  |x b s=>exact GE.fg (g:=E i) f
  |g b s=>
   obtain⟨F,f⟩:=Zk f
   obtain⟨k1,k2,C,D⟩:=mF.ok (K:=J (d i)/\j (d i)<j i/\(E (d i)).pick=(E i).pick) f
   exact⟨ZD,d i,k2,C,k1,D⟩
  |r s=>exact GE.fg (g:=E i) f
  |p a s=>assumption
def jM:Code->Option Code
 | .seq a b=>match jM a with|some c=>Option.some c|none=>jM b
 | .cond _ a b=>match jM a with|some c=>Option.some c|none=>jM b
 | .block _ c=>jM c
 | .loop c=>jM c
 | .scope c=>Option.some c
 |_=>Option.none
def Az(I:ba)(f:FuncId):Code:=match I.body f with
 |some (c,_,_)=>match jM c with|some c=>c|none=> .skip
 |none=> .skip
def AA(I:ba)(f:FuncId)(l:Nat):Code:=match findLabel (Az I f) l with|some r=>r|none=> .skip
abbrev YU{ι:Type}(ks:List (aC PP II))(T:lI)(f l n0:Nat)(S:ι->St)(E:ι->GE)(a:ι->ι)(Q:Prop)(i:ι):Prop :=
 uA ks (mG PP II T) 1000 false (.code (AA II f l)) (S i) (SH n0 l S E a Q i)
structure FP where
 a:Nat
 b:Nat
 c:Nat
 d:Nat
 s:Int
def EM(p:FP):St:={t:=d_ [(2,.ptr 12 0 0 0),(3,.ptr 13 0 0 0),(5,.int z p.s)],nt:=74,H:={n:=27,t:=d_ [(6,.cells dz (.ex 20)),(12,.cells [.str (bu p.a),.str (bu p.b)] (.ty 30)),(13,.cells [.str (bu p.c),.str (bu p.d)] (.ty 30))]},df:=[]}
def EN(r:Int):GE:=.one (.r {t:=d_ [(4,.int z r)],nt:=74,H:={n:=27,t:=d_ [(6,.cells dz (.ex 20))]},df:=[]})
def IP(a b c d)(s r)(h)(Q){g}(i:g=(ah (M (bu (ao (bu a)%ao (bu b))) [48]) (aa (aN z (0-s)) (aH (0-s) r True)) (ah (M (bu (ao (bu c)%ao (bu d))) [48]) (aH s r True) (aa (aN z (0-s)) (aa (decide (bu d=bu d)) (bI (bu d) (bu (h {a:=a,b:=b,c:=c,d:=d,s:=s}).c) (bI (bu (ao (bu c)%ao (bu d))) (bu (h {a:=a,b:=b,c:=c,d:=d,s:=s}).d) (bI (bu b) (bu (h {a:=a,b:=b,c:=c,d:=d,s:=s}).a) (bI (bu (ao (bu a)%ao (bu b))) (bu (h {a:=a,b:=b,c:=c,d:=d,s:=s}).b) (aH (0-s) (h {a:=a,b:=b,c:=c,d:=d,s:=s}).s Q)))))))))){e}(j:e=(bu (ao (bu a)/ao (bu b)))){f}(k:f=(bu (ao (bu c)/ao (bu d)))):(YU [Me,Aw] [] 17 0 27 EM (λ_=>EN r) h Q ⟨a,b,c,d,s⟩)=(aa (isNat (bu a)&&isNat (bu b)&&a_ 0 (ao (bu b))) (aa (isNat (bu c)&&isNat (bu d)&&a_ 0 (ao (bu d))) (aa (isNat e&&isNat f) (ah (!decide (DA (ao e) (ao f)=0)) (aa (aN z (s*DA (ao e) (ao f))) (aH (s*DA (ao e) (ao f)) r True)) (ah (M (bu (ao (bu a)%ao (bu b))) [48]) (ah (M (bu (ao (bu c)%ao (bu d))) [48]) (aH 0 r True) g) g))))):=by subst_vars;kernel_rfl
def Qa(a b c d)(r)(p)(Q){g}(h:g=(ah (M (bu (ao (bu a)%ao (bu b))) [48]) (aa (aN z (-1:Int)) (Q (f_ z (-1:Int)))) (ah (M (bu (ao (bu c)%ao (bu d))) [48]) (Q (f_ z 1)) (aa (aN z (-1:Int)) (aa (decide (bu d=bu d)) (nJ PP II false (AA II 17 0) (Az II 17) 27 (EM p) (EN r)/\bI (bu d) (bu p.c) (bI (bu (ao (bu c)%ao (bu d))) (bu p.d) (bI (bu b) (bu p.a) (bI (bu (ao (bu a)%ao (bu b))) (bu p.b) (aH (-1:Int) p.s (Q (f_ z r)))))))))))){e}(i:e=(bu (ao (bu a)/ao (bu b)))){f}(j:f=(bu (ao (bu c)/ao (bu d)))):(kp [yM,Me,Aw] [(500000,27,EM p,EN r)] 17 [.agg [.str (bu a),.str (bu b)],.agg [.str (bu c),.str (bu d)]] Q)=(aa (bJ (bu a) (bu b)) (aa (bJ (bu c) (bu d)) (aa (isNat (bu a)&&isNat (bu b)&&a_ 0 (ao (bu b))) (aa (isNat (bu c)&&isNat (bu d)&&a_ 0 (ao (bu d))) (aa (isNat e&&isNat f) (ah (!decide (DA (ao e) (ao f)=0)) (aa (aN z (1*DA (ao e) (ao f))) (Q (f_ z (1*DA (ao e) (ao f))))) (ah (M (bu (ao (bu a)%ao (bu b))) [48]) (ah (M (bu (ao (bu c)%ao (bu d))) [48]) (Q (f_ z 0)) g) g))))))):=by subst_vars;kernel_rfl
def bw(a b c d:Nat):Int:=DA (a*d) (c*b)
def Mg(x y):DA y x= -DA x y:=by
 unfold DA
 omega
def Mh(x y k):DA (x+k) (y+k)=DA x y:=by
 unfold DA
 omega
def jU{x y}:DA x y=0↔x=y:=by
 unfold DA
 omega
def Ye(x y):DA x y=1∨DA x y=0∨DA x y= -1:=by
 unfold DA
 omega
def Mi{a b c d}(e:0<b)(h:a/b<c/d):a*d<c*b:=by
 by_cases i:d=0
 grind
 ·have f:a<b*(a/b+1):=Nat.lt_mul_div_succ a e
  have g:(c/d)*d<=c:=Nat.div_mul_le_self c d
  have j:a*d<b*(a/b+1)*d:=Nat.mul_lt_mul_of_pos_right f O
  have k:b*(a/b+1)*d<=b*(c/d)*d:=Nat.mul_le_mul_right d (l_ b h)
  have l:b*(c/d)*d<=b*c:=by rw[s_];exact l_ b g
  grind
def rG{a b c d}(e:0<b)(f:0<d)(h:a/b≠c/d):bw a b c d=DA (a/b) (c/d):=by
 unfold bw
 rcases Nat.lt_or_gt_of_ne h with h1|h1
 ·have:=Mi (c:=c) (d:=d) e h1
  unfold DA
  omega
 ·have:=Mi (a:=c) (b:=d) (c:=a) (d:=b) f h1
  unfold DA
  omega
def Cl{a b c d}(h:a/b=c/d):bw a b c d=DA (a%b*d) (c%d*b):=by
 unfold bw
 have e:=p_ a b
 have f:=p_ c d
 have e1:a*d=a%b*d+b*(a/b)*d:=by
  conv=>lhs;rw[<-e]
  rw[v_,u_]
 have g:c*b=c%d*b+b*(a/b)*d:=by
  conv=>lhs;rw[<-f]
  rw[v_,u_,h]
  congr 1
  rw[g_ (d*(c/d)) b,g_ d,<-s_]
 rw[e1,g,Mh]
def oE{a b c d}(g:0<b)(i:0<d)(h:a/b=c/d):
  (a%b=0->c%d=0->bw a b c d=0)/\(a%b=0->c%d≠0->bw a b c d= -1)/\(a%b≠0->c%d=0->bw a b c d=1)/\(bw b (a%b) d (c%d)= -bw a b c d):=by
 rw[Cl h]
 refine⟨λe f=>?_,λe f=>?_,λe f=>?_,?_⟩
 ·rw[e,f,h_,h_];rfl
 ·rw[e,h_]
  have:0<c%d*b:=w_ O g
  unfold DA;rw[if_pos this]
 ·rw[f,h_]
  have:0<a%b*d:=w_ O i
  unfold DA;omega
 ·unfold bw
  rw[<-Mg,g_ b,g_ d]
def Cm(p:FP):FP:=⟨p.b,p.a%p.b,p.d,p.c%p.d,0-p.s⟩
def T4(p:FP):Prop:=gI p.a=true/\gI p.b=true/\gI p.c=true/\gI p.d=true/\0<p.b/\0<p.d/\(p.s=1∨p.s= -1)
def uW(v):M (bu v) [48]=z_ v 0:=Ax ly
def EO{p0}(G:T4 p0):nJ PP II false (AA II 17 0) (Az II 17) 27 (EM p0) (EN (p0.s*bw p0.a p0.b p0.c p0.d)):=
 nJ.of (ι:=FP) Hs [Me,Aw] (bm PP II []) 1000 27 0 (λp=>T4 p/\p.s*bw p.a p.b p.c p.d=p0.s*bw p0.a p0.b p0.c p0.d) EM (λ_=>EN (p0.s*bw p0.a p0.b p0.c p0.d)) (λp=>p.b) Cm p0 A U ⟨G,rfl⟩ λp H=>by
  obtain⟨a,b,c,d,s⟩:=p
  obtain⟨⟨ha,m,t,n,f,i,u⟩,k⟩:=H
  change gI a=true at ha
  change gI b=true at m
  change gI c=true at t
  change gI d=true at n
  change 0<b at f
  change 0<d at i
  change s=1∨s= -1 at u
  change s*bw a b c d=_ at k
  refine(IP a b c d s _ Cm _ A A A).mpr ?_
  have w:=dS (c_ a b) ha
  have y:=dS (c_ c d) t
  have B:=dS (i_ (e_ a f)) m
  have C:=dS (i_ (e_ c i)) n
  rw[cq,cq,cq,cq,cq,cq,dc ha,dc m,dc t,dc n,dc w,dc y,show a_ 0 b=true by simp_all,show a_ 0 d=true by simp_all]
  have l:aN z (0-s)=true:=by rcases u with rfl|rfl<;>rfl
  have go:a/b=c/d->a%b≠0->c%d≠0->T4 (Cm ⟨a,b,c,d,s⟩)/\(Cm ⟨a,b,c,d,s⟩).s*bw (Cm ⟨a,b,c,d,s⟩).a (Cm ⟨a,b,c,d,s⟩).b (Cm ⟨a,b,c,d,s⟩).c (Cm ⟨a,b,c,d,s⟩).d=p0.s*bw p0.a p0.b p0.c p0.d:=λo g j=>by
   refine⟨⟨m,B,n,C,b_ g,b_ j,?_⟩,?_⟩
   ·show 0-s=1∨0-s= -1
    omega
   ·show(0-s)*bw b (a%b) d (c%d)=_
    rw[(oE f i o).2.2.2,<-k,Int.zero_sub,Int.neg_mul_neg]
  have both:∀{x:Bool},x=true->x=false->False:=zA
  have D:b>a%b:=e_ a f
  with_reducible refine Ze A (Ze A (Ze A (Zh (λh=>?_) λh=>?_)))
  ·have E:a/b≠c/d:=λe=>by
    rw[jU.2 e]at h
    grind
   have e:=rG f i E
   refine Ze ?_ (Zf (by rw[<-e];exact k) trivial)
   rcases u with rfl|rfl<;>rcases Ye (a/b) (c/d)with g|g|g<;>rw[g]<;>rfl
  ·have o:a/b=c/d:=by
    simp only[m_,bn]at h
    exact jU.1 h
   obtain⟨k1,k2,I,_⟩:=oE f i o
   have q:∀{v:Nat},M (bu v) [48]=true->v=0:=λ{v} h=>dE ((uW v).symm.trans h)
   have r:∀{v:Nat},M (bu v) [48]=false->v≠0:=λ{v} h e=>by
    have:=(uW v).symm.trans h
    simp_all
   with_reducible refine Zh (λg=>Zh (λj=>Zf ?_ trivial) (λj=>Zh (λ_=>Ze l (Zf ?_ trivial)) (λF=>(both g F).elim))) (λg=>Zh (λF=>(both F g).elim) (λ_=>Zh (λj=>Zf ?_ trivial) (λj=>Ze l (Ze ?_ (Zi ?_ (Zi ?_ (Zi ?_ (Zi ?_ (Zf ?_ ?_)))))))))
   ·rw[<-k,k1 (q g) (q j),Int.mul_zero]
   ·rw[<-k,k2 (q g) (r j)];omega
   ·rw[<-k,I (r g) (q j)];omega
   ·simp
   ·rfl
   ·rfl
   ·rfl
   ·rfl
   ·rfl
   ·exact⟨go o (r g) (r j),D,rfl⟩
def Qb{a b c d}(f:bJ (bu a) (bu b)=true)(g:bJ (bu c) (bu d)=true)(ha:gI a=true)(n:gI b=true)(u:gI c=true)(o:gI d=true)(j:0<b)(k:0<d):
  af PP II 17 [.agg [.str (bu a),.str (bu b)],.agg [.str (bu c),.str (bu d)]] HP (.ret (.int z (bw a b c d)) HP):=by
 refine kz (T:=[(500000,27,EM ⟨b,a%b,d,c%d,-1⟩,EN (bw a b c d))]) ((Qa a b c d (bw a b c d) ⟨b,a%b,d,c%d,-1⟩ _ A A A).mpr ?_)
 have p:=dS (c_ a b) ha
 have q:=dS (c_ c d) u
 have r:=dS (i_ (e_ a j)) n
 have s:=dS (i_ (e_ c k)) o
 rw[cq,cq,cq,cq,cq,cq,dc ha,dc n,dc u,dc o,dc p,dc q,show a_ 0 b=true by simp_all,show a_ 0 d=true by simp_all,f,g,Int.one_mul]
 have both:∀{x:Bool},x=true->x=false->False:=zA
 have i:∀{x:Int},x=bw a b c d->∀σ,AV.le σ (.int z x) (.int z (bw a b c d)):=λe _=>⟨rfl,e⟩
 with_reducible refine Ze A (Ze A (Ze A (Ze A (Ze A (Zh (λh=>?_) λh=>?_)))))
 ·have t:a/b≠c/d:=λe=>by
   rw[jU.2 e]at h
   grind
  refine Ze ?_ (i (rG j k t).symm)
  rcases Ye (a/b) (c/d)with f|f|f<;>rw[f]<;>rfl
 ·have w:a/b=c/d:=by
   simp only[m_,bn]at h
   exact jU.1 h
  obtain⟨k1,k2,y,C⟩:=oE j k w
  have l:∀{v:Nat},M (bu v) [48]=true->v=0:=λ{v} h=>dE ((uW v).symm.trans h)
  have m:∀{v:Nat},M (bu v) [48]=false->v≠0:=λ{v} h e=>by
   have:=(uW v).symm.trans h
   simp_all
  with_reducible refine Zh (λf=>Zh (λg=>?_) (λg=>Zh (λ_=>Ze ?_ ?_) (λB=>(both f B).elim))) (λf=>Zh ZD (λ_=>Zh (λg=>?_) (λg=>Ze ?_ (Ze ?_ ⟨?_,Zi ?_ (Zi ?_ (Zi ?_ (Zi ?_ (Zf ?_ ?_))))⟩))))
  ·exact i (k1 (l f) (l g)).symm
  ·rfl
  ·exact i (k2 (l f) (m g)).symm
  ·exact i (y (m f) (l g)).symm
  ·rfl
  ·simp
  ·have:=EO (p0:=⟨b,a%b,d,c%d,-1⟩) ⟨n,r,o,s,b_ (m f),b_ (m g),.inr A⟩
   grind
  all_goals grind
def Cn{a b}(h:bJ a b=true):a=bu (ao a)/\b=bu (ao b)/\gI (ao a)=true/\gI (ao b)=true/\0<ao b:=by
 have f:=h
 unfold bJ at h
 simp only[bf]at h
 obtain⟨⟨⟨c,d⟩,e⟩,_⟩:=h
 rw[Nat.blt_eq]at e
 exact⟨(iC c).1,(iC d).1,(iC c).2,(iC d).2,e⟩
def j8:aC PP II:=aC.l8 17
 (λX args f=>match args with
  |[.agg [.str a,.str b],.agg [.str c,.str d]]=>X.bq (bJ a b&&bJ c d) (f (.int z (bw (ao a) (ao b) (ao c) (ao d))))
  |_=>X.fail)
 λX sem hX args f h=>by
  split at h
  ·rename_i a b c d
   obtain⟨e,g⟩:=hX.bq _ _ h
   simp only[bf]at e
   obtain⟨e1,n,i,j,k⟩:=Cn e.1
   obtain⟨f1,o,l,m,f5⟩:=Cn e.2
   refine⟨_,g,λ_=>rfl,λ_=>rfl,?_⟩
   have:=Qb Y Y i j l m k f5
   grind
  ·exact zR
def zl:aC PP II:=aC.pure 108
 (λX args d=>match args with
  |[.aw,.ab m 1 g]=>X.bq (jn m g) (d (jm (numOf m g)))
  |[.ab k 1 f,.ab m 1 g]=>X.bq (jn k f&&jn m g) (d (jm (numOf k f+numOf m g)))
  |_=>X.fail)
 λX sem hX args d h=>by
  split at h
  ·rename_i m g
   obtain⟨c,e⟩:=hX.bq _ _ h
   obtain⟨a1,a2⟩:=oD c
   have:=P1 (a:=0) (b:=numOf m g) (k:=0) (by rw[DC];omega) (dw _) (Nat.zero_le _) O
   rw[Nat.zero_add]at this
   exact⟨_,e,λ_=>rfl,λ_=>rfl,this.dq ⟨rfl,a1,trivial⟩⟩
  ·obtain⟨c,e⟩:=hX.bq _ _ h
   simp only[bf]at c
   obtain⟨a1,a2⟩:=oD c.1
   obtain⟨i,j⟩:=oD c.2
   exact⟨_,e,λ_=>rfl,λ_=>rfl,(P1 (dw _) (dw _) O O).dq ⟨a1,i,trivial⟩⟩
  ·exact zR
def V9:aC PP II:=aC.pure 157
 (λX args b=>match args with
  |[.ab k 1 f,.int z 1]=>X.bq (jn k f) (b (jm (numOf k f)))
  |_=>X.fail)
 λX sem hX args b h=>by
  split at h
  ·rename_i k f
   obtain⟨c,d⟩:=hX.bq _ _ h
   obtain⟨a1,a2⟩:=oD c
   have:=Wn (a:=numOf k f) (n:=1) O (dw _) O
   rw[Nat.mul_one]at this
   exact⟨_,d,λ_=>rfl,λ_=>rfl,this.dq ⟨a1,⟨rfl,rfl⟩,trivial⟩⟩
  ·exact zR
def jz:isNat [49]=true:=by rw[<-GR];exact dc (jL O)
def il:ao [49]=1:=by rw[<-GR,cq]
def OR:aC PP II:=aC.pure 106
 (λX args b=>match args with
  |[.str a,.str [49]]=>X.bq (isNat a) (b (.qP [GQ false (ao a),.agg [.bool false,.ab 1 1 λ_=>[.int z 1]],.bool true]))
  |_=>X.fail)
 λX sem hX args b h=>by
  split at h
  ·rename_i a
   obtain⟨c,d⟩:=hX.bq _ _ h
   obtain⟨a1,a2,e⟩:=rF c
   obtain⟨f,g,j⟩:=rF jz
   have:=L7 a2 g (by rw[a1,f];rfl)
   rw[e,j]at this
   refine⟨_,d,λ_=>rfl,λ_=>rfl,this.le (ky.of [] (im.of A A A A A (gS.2 λl _=>trivial)) ⟨⟨rfl,mP _ _,trivial⟩,⟨rfl,⟨?_,rfl,λi hi=>?_⟩,trivial⟩,rfl,trivial⟩)⟩
   ·rw[il,rv O,show 1/10000=0 from rfl,DC]
   ·rw[il,rv O,show 1/10000=0 from rfl,DC]at hi
    rw[il,show i=0 by omega]
    exact⟨⟨rfl,rfl⟩,trivial⟩
  ·exact zR
def Sp(a:List UInt8)(Q:AV->Prop):(kp [OR,V9,zl,L9] [] 115 [.str a,.str [49]] Q)=(let b:=(numOf (ar (numOf (ar (ao a)) (aG (ao a)))) (aG (numOf (ar (ao a)) (aG (ao a)))));(aa (isNat a) (aa (aN z 0) (aa (jn (ar (ao a)) (aG (ao a))) (aa (jn (ar (numOf (ar (ao a)) (aG (ao a)))) (aG (numOf (ar (ao a)) (aG (ao a))))) (aa (aN z (-1:Int)) (aa (jn (ar b) (aG b)&&gI (numOf (ar b) (aG b))) (Q (x_ [k_ (xO false (numOf (ar b) (aG b))),f_ z 0]))))))))):=U
def Sq(a b:List UInt8)(Q:AV->Prop):(kp [Au,zl,L9] [] 55 [.str a,.str b] Q)=(aa (isNat a&&isNat b) (aa (jn (ar (ao a)) (aG (ao a))&&jn (ar (ao b)) (aG (ao b))) (aa (jn (ar (numOf (ar (ao a)) (aG (ao a))+numOf (ar (ao b)) (aG (ao b)))) (aG (numOf (ar (ao a)) (aG (ao a))+numOf (ar (ao b)) (aG (ao b))))&&gI (numOf (ar (numOf (ar (ao a)) (aG (ao a))+numOf (ar (ao b)) (aG (ao b)))) (aG (numOf (ar (ao a)) (aG (ao a))+numOf (ar (ao b)) (aG (ao b)))))) (Q (x_ [k_ (xO false (numOf (ar (numOf (ar (ao a)) (aG (ao a))+numOf (ar (ao b)) (aG (ao b)))) (aG (numOf (ar (ao a)) (aG (ao a))+numOf (ar (ao b)) (aG (ao b)))))),f_ z 0]))))):=U
def Sr{a}(h:isNat a=true)(ht:gI (ao a)=true):af PP II 115 [.str a,.str [49]] HP (.ret (.qP [.str (bu (ao a)),.int z 0]) HP):=by
 refine kz (ks:=[OR,V9,zl,L9]) (T:=[]) ?_
 rw[Sp]
 simp only[bZ,jo ht,h,ht,qH,j_]
 exactλσ=>⟨rfl,⟨rfl,rfl⟩,trivial⟩
def Ss{a b}(ha:isNat a=true)(d:isNat b=true)(ht:gI (ao a)=true)(e:gI (ao b)=true)(c:gI (ao a+ao b)=true):af PP II 55 [.str a,.str b] HP (.ret (.qP [.str (bu (ao a+ao b)),.int z 0]) HP):=by
 refine kz (ks:=[Au,zl,L9]) (T:=[]) ?_
 rw[Sq]
 simp only[bZ,jo ht,jo e,jo c,ha,d,c,qH,j_]
 exactλσ=>⟨rfl,⟨rfl,rfl⟩,trivial⟩
def U7:aC PP II:=aC.l8 115
 (λX args c=>match args with
  |[.str a,.str [49]]=>X.bq (isNat a&&gI (ao a)) (c (.qP [.str (bu (ao a)),.int z 0]))
  |_=>X.fail)
 λX sem hX args c h=>by
  split at h
  ·rename_i a
   obtain⟨b,d⟩:=hX.bq _ _ h
   rw[bf]at b
   exact⟨_,d,λ_=>rfl,λ_=>rfl,Sr b.1 b.2⟩
  ·exact zR
def Ve:aC PP II:=aC.l8 55
 (λX args c=>match args with
  |[.str a,.str b]=>X.bq (isNat a&&isNat b&&gI (ao a)&&gI (ao b)&&gI (ao a+ao b)) (c (.qP [.str (bu (ao a+ao b)),.int z 0]))
  |_=>X.fail)
 λX sem hX args c h=>by
  split at h
  ·rename_i a b
   obtain⟨d,e⟩:=hX.bq _ _ h
   simp only[bf]at d
   obtain⟨⟨⟨⟨a1,a2⟩,f⟩,g⟩,i⟩:=d
   exact⟨_,e,λ_=>rfl,λ_=>rfl,Ss a1 a2 f g i⟩
  ·exact zR
def Su(a b)(Q):(kp [yM,U7,Ve,Mf,TY,Me] [] 25 [.agg [.str a,.str [49]],.agg [.str b,.str [49]]] Q)=(let c:=(ao [49]);let e:=(ao (bu (ao a))+ao (bu (ao b)));let d:=(bu (Nat.gcd (ao (bu e)) (ao (bu c))));(aa (bJ a [49]) (aa (aN z 1) (aa (bJ b [49]) (aa (aN z 2) (aa (isNat a&&gI (ao a)) (aa (decide (b=b)) (aa (isNat b&&gI (ao b)) (aa (isNat (bu (ao a))&&isNat (bu (ao b))&&gI (ao (bu (ao a)))&&gI (ao (bu (ao b)))&&gI e) (aa (isNat [49]&&gI c) (ah (M (bu c) [48]) (Q (x_ [AV.agg [k_ [],k_ []],f_ z 40])) (aa (isNat (bu c)&&a_ 0 (ao (bu c))) (aa (isNat (bu e)&&isNat (bu c)) (aa (isNat (bu e)&&isNat d&&a_ 0 (ao d)) (aa (isNat (bu c)&&isNat d&&a_ 0 (ao d)) (Q (x_ [AV.agg [k_ (bu (ao (bu e)/ao d)),k_ (bu (ao (bu c)/ao d))],f_ z 0]))))))))))))))))):=U
def mr{a}(h:isNat a=true):bJ a [49]=true:=by
 unfold bJ
 rw[h,jz,il,n_];rfl
def Sv{a b}(ha:isNat a=true)(f:isNat b=true)(p:ao a<=2305843009213693952)(q:ao b<=2305843009213693952):af PP II 25 [.agg [.str a,.str [49]],.agg [.str b,.str [49]]] HP (.ret (.qP [.agg [.str (bu (ao a+ao b)),.str [49]],.int z 0]) HP):=by
 have ra:=mr ha
 have rb:=mr f
 have g:=jL (n:=ao a) O
 have i:=jL (n:=ao b) O
 have j:=jL (n:=ao a+ao b) O
 have t1:=jL (n:=1) O
 refine kz (ks:=[yM,U7,Ve,Mf,TY,Me]) (T:=[]) ?_
 rw[Su]
 generalize l:isNat (_::_)=c
 have d:c=true:=l.symm.trans jz
 generalize m:ao (_::_)=o
 have e:o=1:=m.symm.trans il
 clear l m
 subst d e
 have r:M (bu 1) [48]=false:=by rw[Ax (k:=0) ly];rfl
 simp only[cq,n_,Nat.div_one,ha,f,g,i,j,t1,dc g,dc i,dc j,dc t1,j_,Nat.div_self Nat.one_pos]
 refine cC _ _ ra (cC _ _ A (cC _ _ rb (cC _ _ A (cC _ _ A (cC _ _ A (cC _ _ A (cC _ _ A (cC _ _ A (Zh (λh=>?_) λ_=>cC _ _ A (cC _ _ A (cC _ _ A (cC _ _ A λσ=>⟨⟨rfl,GR,trivial⟩,⟨rfl,rfl⟩,trivial⟩))))))))))))
 simp_all
def Du:aC PP II:=aC.l8 25
 (λX args e=>match args with
  |[.agg [.str a,.str c],.agg [.str b,.str d]]=>X.bq (isNat a&&isNat b&&decide (c=[49])&&decide (d=[49])&&t_ (ao a) 2305843009213693952&&t_ (ao b) 2305843009213693952) (e (.qP [.agg [.str (bu (ao a+ao b)),.str [49]],.int z 0]))
  |_=>X.fail)
 λX sem hX args e h=>by
  split at h
  ·rename_i a c b d
   obtain⟨f,g⟩:=hX.bq _ _ h
   simp only[bf,bn]at f
   obtain⟨⟨⟨⟨⟨a1,a2⟩,rfl⟩,rfl⟩,i⟩,j⟩:=f
   exact⟨_,g,λ_=>rfl,λ_=>rfl,Sv a1 a2 ZD ZD⟩
  ·exact zR
def Wv(h:49<2^8):UInt8.ofBitVec (BitVec.ofFin ⟨49,h⟩)=49:=rfl
def Xj(h:48<2^8):UInt8.ofBitVec (BitVec.ofFin ⟨48,h⟩)=48:=rfl
end
end Go.Sx
