/- The proof of a statement of the seat, part 20. -/
import Derived.Test.YtleifmkjbmhlpaaGreatDoorX14
import Derived.RecoverIn
import Derived.TacticsInMore
set_option linter.all false
set_option linter.defProp false
set_option maxRecDepth 1000000
namespace Go.Sx
open Go
open Go.Value renaming pointer->M,func->a_
open _root_.Array renaming replicate->z
open Option renaming none->b_,some->c_
open Int renaming ofNat->d_
open Nat renaming beq->e_,ble->j_
noncomputable section
def Nl{n s}(a:lO n=true)(b:s.length<=1000):af PP II 41 [.int .i64 n,.str s] HB (.ret (.str (oO n s)) HB):=by
 refine yR (ks:=[yB,Ij]) (T:=[]) (λσ=>rfl) ?_;rw[MJ n s];have hl:=rZ [n];have e:List.length [n]=1:=rfl;rw[e]at hl;refine ZF ?_ (ZF Y (ZF (bK zK) (ZF (il zK) A)));unfold lO at a;rw[a];rfl
def uB:ax PP II:=ax.xa 41
 (λX args a=>match args with
  |[.int .i64 n,.str s]=>X.ag (lO n&&j_ s.length 1000) (a (.str (oO n s)))
  |_=>X.fail)
 λX sem hX args a h=>by
  split at h
  ·obtain⟨b,c⟩:=hX.ag _ _ h;simp only[ba]at b;exact⟨_,c,λ_=>rfl,λ_=>rfl,Nl b.1 (by simp_all)⟩
  ·exact zR
def Nn(n)(F)(Q):(kh [nR,Ky,yU,uB] [] 16 [cZ n F] Q)=(let a:=(aq (bp 20 n (bS λi=>aB (F i))));let b:=(mW {lo:=λj=>if h:j=0 then Node.lo a 0 else if h:j=1 then Node.lo a 1 else if h:j=2 then Node.lo a 2 else if h:j=3 then Node.lo a 3 else if h:j=4 then Node.lo a 4 else if h:j=5 then Node.lo a 5 else if h:j=6 then Node.lo a 6 else if h:j=7 then Node.lo a 7 else 0,hi:=λj=>if h:j=0 then Node.hi a 0 else if h:j=1 then Node.hi a 1 else if h:j=2 then Node.hi a 2 else if h:j=3 then Node.hi a 3 else if h:j=4 then Node.hi a 4 else if h:j=5 then Node.hi a 5 else if h:j=6 then Node.hi a 6 else if h:j=7 then Node.hi a 7 else 0,l:=Node.l a,r:=Node.r a});(B (decide (n<=1000000)&&du n λi=>aB (F i)) (ak (!bT n (bS λi=>aB (F i))) (Q (AV.bM [AV.str [],AV.int .i64 210])) (ak (decide (d_ n=0)) (Q (AV.bM [AV.str (oO 0 []),AV.int .i64 0])) (B (du n λi=>aB (F i)) (B (cq 20 n) (B (gx n (bS λi=>aB (F i))) (B (cQ {lo:=λj=>if h:j=0 then Node.lo a 0 else if h:j=1 then Node.lo a 1 else if h:j=2 then Node.lo a 2 else if h:j=3 then Node.lo a 3 else if h:j=4 then Node.lo a 4 else if h:j=5 then Node.lo a 5 else if h:j=6 then Node.lo a 6 else if h:j=7 then Node.lo a 7 else 0,hi:=λj=>if h:j=0 then Node.hi a 0 else if h:j=1 then Node.hi a 1 else if h:j=2 then Node.hi a 2 else if h:j=3 then Node.hi a 3 else if h:j=4 then Node.hi a 4 else if h:j=5 then Node.hi a 5 else if h:j=6 then Node.hi a 6 else if h:j=7 then Node.hi a 7 else 0,l:=Node.l a,r:=Node.r a}) (B (lO (d_ n)&&j_ (List.length b) 1000) (Q (AV.bM [AV.str (oO (d_ n) b),AV.int .i64 0]))))))))))):=U
def aap(n:Nat)(F:Nat->ao):Tree:=bp 20 n F
def nh(n:Nat)(F:Nat->ao):List UInt8×Int:=bif bT n F then(bif e_ n 0 then(oO 0 [],0)else(oO n (mW (aq (aap n F))),0))else([],210)
def vL(n:Nat)(F:Nat->ao):Bool:=e_ n 0||(cq 20 n&&gx n F)
def No{n:Nat}{F:Nat->ao}(h:vL n F=true):af PP II 16 [cZ n F] HB (.ret (.bM [.str (nh n F).1,.int .i64 (nh n F).2]) HB):=by
 refine yR (ks:=[nR,Ky,yU,uB]) (T:=[]) (λσ=>⟨rfl,⟨rfl,rfl⟩,trivial⟩) ?_;rw[Nn n F];have g:bS (λi=>aB (F i))=F:=rfl;have j:d_ n=(n:Int):=rfl;have d:n<=1000000/\(n≠0->cq 20 n=true/\gx n F=true):=by
  simp only[vL,Bool.or_eq_true,ba]at h;rcases h with h|h
  ·simp_all
  ·have e:=h.1;simp only[cq,ba]at e;have b:=fT e.2
   grind
 rw[g];refine ZF (by rw[dm,bK d.1];rfl) (aaz (λa=>?_) λa=>aaz (λc=>?_) λc=>?_)
 ·have a:bT n F=false:=by simpa using a
  unfold nh;rw[a];rfl
 ·have a:bT n F=true:=by simpa using a
  have c:n=0:=by have:=py c;omega
  subst c;rfl
 ·have a:bT n F=true:=by simpa using a
  have c:n≠0:=by have:=of_decide_eq_false c;omega
  obtain⟨g1,g2⟩:=d.2 c;have ok:=r8 20 n F g1 g2;have f:e_ n 0=false:=by
   cases f:e_ n 0 with
   |true=>simp_all
   |false=>rfl
  refine ZF (dm _ _) (ZF g1 (ZF g2 (ZF ((rfl:_=cQ (aq (bp 20 n F))).trans ok) (ZF ?_ ?_))))
  ·have:lO (d_ n)=true:=by unfold lO;simp only[ba,bl];omega
   rw[this];rfl
  ·unfold nh;rw[a,f];rfl
def DC:ax PP II:=ax.xa 16
 (λX args a=>match args with
  |[.ae n 10 f]=>X.ag (du n f) (X.ag (vL n (bS f)) (a (.bM [.str (nh n (bS f)).1,.int .i64 (nh n (bS f)).2])))
  |_=>X.fail)
 λX sem hX args a h=>by
  split at h
  ·rename_i n f;obtain⟨b,k1⟩:=hX.ag _ _ h;obtain⟨c,k2⟩:=hX.ag _ _ k1;exact⟨_,k2,λ_=>rfl,λ_=>rfl,(No c).cS ⟨jK b,trivial⟩⟩
  ·exact zR
section
open Go.Proofs.Tryz
def ra(f):(WF b_).fn f=True:=rfl
def YD(w):(Instr.typeAssert .nilIface 20 39 true).run PP w= .ok (.tuple #[.int .i64 0,.bool false]) w:=U
def YE(u)(w):(Instr.typeAssert (.iface 39 u) 20 39 true).run PP w= .ok (.tuple #[u,.bool true]) w:=U
def Np{n w w' p}(h:(Instr.storeAt 4 (.pointer (c_ p)) (.bool true)).run PP w= .ok () w'):
  CallsDIn (WF b_) n PP 92 #[.pointer (c_ p)] .returning w λe d c=>e= .returned (.tuple #[])/\d= .returning/\c=w':=by
 refine callsDIn_of_wpSIn func92 A trivial λa cs b=>?_
 apply wpSIn_seq;apply wpSIn_region;simp[wpOpsSIn,go_sem,recoverD,b,ntmps92,Exit.thenS,ra];apply wpSIn_seq;apply wpSIn_seq;apply wpSIn_region;simp[wpOpsSIn,go_sem,recoverD,b,ntmps92,Exit.thenS,ra,YD];apply wpSIn_seq;apply wpSIn_region;simp[wpOpsSIn,go_sem,recoverD,b,ntmps92,Exit.thenS,ra];refine wpSIn_cond (t:=false) (by simp[Act.eval,z]) ?_;simp only[lu,if_false];refine wpSIn_of_wpIn A (wpIn_skip ?_);simp only[Exit.thenS];apply wpSIn_region;simp[wpOpsSIn,go_sem,recoverD,b,ntmps92,Exit.thenS,ra];simp[go_sem]at h;simp only[h,Result.andThen_ok];cases a;simp_all[bodyPostS,results,results92,go_sem]
def Nq{n w w' p u}(h:(Instr.storeAt 4 (.pointer (c_ p)) (.bool false)).run PP w= .ok () w'):
  CallsDIn (WF b_) n PP 92 #[.pointer (c_ p)] (.panicking [{v:=.iface 39 u,recovered:=false}]) w λe d c=>
   e= .returned (.tuple #[])/\d= .panicking [{v:=.iface 39 u,recovered:=true}]/\c=w':=by
 refine callsDIn_of_wpSIn func92 A trivial λa cs b=>?_
 apply wpSIn_seq;apply wpSIn_region;simp[wpOpsSIn,go_sem,recoverD,b,ntmps92,Exit.thenS,ra];apply wpSIn_seq;apply wpSIn_seq;apply wpSIn_region;simp[wpOpsSIn,go_sem,recoverD,b,ntmps92,Exit.thenS,ra,YE];apply wpSIn_seq;apply wpSIn_region;simp[wpOpsSIn,go_sem,recoverD,b,ntmps92,Exit.thenS,ra];refine wpSIn_cond (t:=false) (by simp[Act.eval,z]) ?_;simp only[lu,if_false];refine wpSIn_of_wpIn A (wpIn_skip ?_);simp only[Exit.thenS];apply wpSIn_region;simp[wpOpsSIn,go_sem,recoverD,b,ntmps92,Exit.thenS,ra];simp[go_sem]at h;simp only[h,Result.andThen_ok];cases a;simp_all[bodyPostS,results,results92,go_sem]
def uC:Oper:={dst:=c_ 2,op:=Op.alloc 4,type:=0,pos := "certify.go:24",after := #[],guard:=b_}
def Ry{c:fE}{ρ:Env}{H:AH}{w:World}(d:Rel c ρ H w)(e:Operand->Value):
  ∃w' ρ' b N,(execOp e uC).run PP w= .ok (.value (.pointer (c_ ⟨b,0,b_⟩))) w'/\Ext ρ ρ'/\ρ' H.n=c_ (b,N)/\Rel c ρ' (H.new (.cells [.bool false] (.ty 4))) w':=by
 have h:Es RI.l3 II uC (λ_=> .any) H (λa H'=>a= .ptr H.n 0 0 0/\H'=H.new (.cells [.bool false] (.ty 4))):=by show(match(II.zero 4).bind AV.cells? with|some cs=>_|none=>False);exact⟨rfl,rfl⟩
 obtain⟨a,H',⟨rfl,rfl⟩,f⟩:=CM RI.dX fU h;obtain⟨v,w',ρ',g,i,j,e4,_⟩:=f c ρ w e (λ_=>zB) d;simp only[VR]at e4
 grind
def BX{g:FuncId}{first j:List AV}{H:AH}{o out:CO}(t:af PP II g (first++j) (H.new (.cells [.bool false] (.ty 4))) o)
  (s:∀c ρ w b N,ρ H.n=c_ (b,N)->match o with
   | .ret _ H2=>Rel c ρ H2 w->∃p d v,(Instr.storeAt 4 (.pointer (c_ ⟨b,0,b_⟩)) (.bool true)).run PP w= .ok () p/\(Instr.storeAt 4 (.pointer (c_ ⟨b,0,b_⟩)) (.bool true)).run PP p= .ok () d/\(Instr.loadAt 4 (.pointer (c_ ⟨b,0,b_⟩))).run PP d= .ok v d/\out.post c ρ (.returned v) d
   | .rL a H2=>(∃x,a= .iface 39 x)/\(Rel c ρ H2 w->∃p v,(Instr.storeAt 4 (.pointer (c_ ⟨b,0,b_⟩)) (.bool false)).run PP w= .ok () p/\(Instr.loadAt 4 (.pointer (c_ ⟨b,0,b_⟩))).run PP p= .ok v p/\out.post c ρ (.returned v) p)):
  af PP II 52 [.fn g first j] H out:=by
 intro c ρ w vs hG X hr;obtain⟨fn,hf,P,hn,ad,y⟩:=fU.body 52 _ _ _ (by rfl);refine .inl ⟨y _ _,?_⟩;have goal:CallsIn (WF b_) 0 PP 52 vs.toArray w (out.post c ρ):=?_
 ·exact callsIn_wide.1 goal
 simp only[aV]at X;obtain⟨u0,us,rfl,Y,rfl⟩:=X;simp only[VR]at Y;obtain⟨I,cs,rfl,Q,R⟩:=Y;refine callsIn_of_wp_defers (F:=WF b_) func52 A trivial ?_;apply wpIn_seq;apply wpIn_region;obtain⟨p,q,b,N,e1,L,Z,e4⟩:=Ry hr ({tmps := #[a_ (Fn.func g) I.toArray cs.toArray]++z 5 undef,defers:=[]}:Act).eval;show wpOpsIn (WF b_) 0 PP #[uC] _ [0] _ _;refine nP A A ⟨λ_ _=>trivial,?_⟩;refine(congrArg (Oper.uponIn _ _ _ _ _ _ _) e1).mpr ?_;simp only[Oper.uponIn_value,wpOpsIn,Exit.then];apply wpIn_seq;apply wpIn_region;have C:(WF b_).round=b_:=rfl;have J:∀(fn:Fn)(first cap:Array Value)(w:World),(Instr.makeFunc fn first cap).run PP w= .ok (.func fn first cap) w:=λ_ _ _ _=>rfl
 simp[wpOpsIn,Oper.wpIn,Oper.uponIn,uC,J,C,go_sem,ntmps52,ra,Exit.then];apply wpIn_seq;apply wpIn_region;simp[wpOpsIn,Oper.wpIn,Oper.uponIn,uC,J,C,go_sem,ntmps52,ra,Exit.then];have S:aV q (first++j) (I++cs):=aV.append (aV.ext L _ _ Q) (aV.ext L _ _ R);have hx:=t c q p _ hG S e4;have back:∀(v:Value)(d:World),o.post c q (.returned v) d->Code.wpIn (WF b_) 0 PP ((Code.region 3 #[{dst:=b_,op:=Op.store 4 (Operand.tmp 2) (Operand.const (Value.bool true)),type:=0,pos := "certify.go:33",after := #[],guard:=b_}] false).seq Code.ret)
   (bodyPostDIn (WF b_) 0 PP f52 (out.post c ρ)) (Act.mk (#[a_ (Fn.func g) I.toArray cs.toArray]++((((z 5 undef).setIfInBounds 1 (M (c_ {block:=b,off:=0}))).setIfInBounds 2 (a_ (Fn.func 92) #[] #[M (c_ {block:=b,off:=0})])).setIfInBounds 3 (a_ (Fn.func g) I.toArray cs.toArray)).setIfInBounds 4 v) [{target:=Target.fn (Fn.func 92) #[M (c_ {block:=b,off:=0})],args := #[]}]) d:=by
  intro v d i;cases o with
  |rL a H2=>exact i.elim
  |ret a H2=>
   obtain⟨D,k,E,G⟩:=i;obtain⟨w3,w4,r,T,s2,U,s4⟩:=s c D d b N (k _ _ Z) E;apply wpIn_seq;apply wpIn_region;have K:=T;simp[go_sem]at K;simp[wpOpsIn,Oper.wpIn,Oper.uponIn,C,go_sem,ra,Exit.then,K];refine wpIn_ret ?_;simp only[bodyPostDIn];refine leavesIn_cons (f:=92) (args := #[.pointer (c_ ⟨b,0,b_⟩)]) zA (λh=>zE) (by simp[go_sem]) (λ_ _=>trivial) ?_;refine(Np s2).mono ?_
   rintro e u' V ⟨rfl,rfl,rfl⟩
   have l:=U;simp[go_sem]at l;refine⟨r,?_,?_⟩
   ·simp[results,results52,go_sem,l]
   ·exact(λi=>by
     cases out with
     |ret a H=>obtain⟨ρ',k1,k2,W⟩:=i;exact⟨ρ',(L.trans k).trans k1,k2,W⟩
     |rL a H=>exact i.elim) s4
 have aa:∀(O:List PanicEntry)(d:World),o.post c q (.panicked O) d->bodyPostDIn (WF b_) 0 PP f52 (out.post c ρ) (Exit.panic O)
   (Act.mk (#[a_ (Fn.func g) I.toArray cs.toArray]++(((z 5 undef).setIfInBounds 1 (M (c_ {block:=b,off:=0}))).setIfInBounds 2 (a_ (Fn.func 92) #[] #[M (c_ {block:=b,off:=0})])).setIfInBounds 3 (a_ (Fn.func g) I.toArray cs.toArray)) [{target:=Target.fn (Fn.func 92) #[M (c_ {block:=b,off:=0})],args := #[]}]) d:=by
  intro O d i;cases o with
  |ret a H2=>exact i.elim
  |rL a H2=>
   obtain⟨D,u,rfl,k,E,G⟩:=i;obtain⟨⟨x,rfl⟩,hq⟩:=s c D d b N (k _ _ Z);obtain⟨w3,r,T,U,s4⟩:=hq E;simp only[VR]at G;obtain⟨uu,rfl,_⟩:=G;simp only[bodyPostDIn];refine leavesIn_cons (f:=92) (args := #[.pointer (c_ ⟨b,0,b_⟩)]) zA (λh=>zE) (by simp[go_sem]) (λ_ _=>trivial) ?_;refine(Nq T).mono ?_
   rintro e u' V ⟨rfl,rfl,rfl⟩
   have l:=U;simp[go_sem]at l;simp only[settle];refine⟨r,?_,?_⟩
   ·simp[results,results52,go_sem,l]
   ·exact(λi=>by
     cases out with
     |ret a H=>obtain⟨ρ',k1,k2,W⟩:=i;exact⟨ρ',(L.trans k).trans k1,k2,W⟩
     |rL a H=>exact i.elim) s4
 rcases hx with⟨he,hc⟩|⟨v,d,he,i⟩
 ·rw[he];refine⟨rfl,CallsIn.mono (F:=WF b_) (callsIn_wide.2 hc) λe w' m=>?_⟩;cases e with
  |returned v=>exact back v w' m
  |panicked O=>grind
  |outgrown=>cases o<;>exact m.elim
 grind
def KT(ks:List (ax PP II)){R:Type}(X:RI R):Spec R:=λargs H c _=>match args with
 |[.fn g first a]=>pH X II (known X ks) (run X II (known X ks) (J8 R) (yn X II LV [54,55]) 1000) g (first++a) (H.new (.cells [.bool false] (.ty 4)))
   (λ_ H2=>vd X II 4 (.ptr H.n 0 0 0) (.bool true) H2 λb=>vd X II 4 (.ptr H.n 0 0 0) (.bool true) b λd=>wc X II 4 d (.ptr H.n 0 0 0) λr=>c r d)
   (λv H2=>match v with
    | .iface t _=>bif e_ t 39 then vd X II 4 (.ptr H.n 0 0 0) (.bool false) H2 λb=>wc X II 4 b (.ptr H.n 0 0 0) λr=>c r b else X.fail
    |_=>X.fail)
 |_=>X.fail
def Vs(ks:List (ax PP II)):ax PP II where
 f:=52
 spec X:=KT ks X
 ok {R} X sem hX args H G kp h:=by
  unfold KT at h;split at h
  ·rename_i g first q
   obtain⟨o,i,s⟩:=rQ hX fU (qK hX ks) (C2 hX fU (qK hX ks) (Hz PP II sem) (vn hX fU LV [54,55]) 1000) g _ _ _ _ h;have d:∀(ρ:Env) b N,ρ H.n=c_ (b,N)->VR ρ (.ptr H.n 0 0 0) (.pointer (c_ ⟨b,0,b_⟩)):=λρ b N e=>by simp only[VR];grind
   cases o with
   |ret a H2=>obtain⟨u,h3,k⟩:=rI hX fU (P:=PP) i;obtain⟨D,h4,E⟩:=rI hX fU (P:=PP) h3;obtain⟨r,l,m⟩:=qC hX fU (P:=PP) h4;refine⟨.ret r D,l,BX s λc ρ w b N e p=>?_⟩;obtain⟨j,a1,a2⟩:=k c ρ w _ (.bool true) (d ρ b N e) zB p;obtain⟨y,F,C⟩:=E c ρ j _ (.bool true) (d ρ b N e) zB a2;obtain⟨v,c1,c2⟩:=m c ρ y _ (d ρ b N e) C;exact⟨j,y,v,a1,F,c1,ρ,Ext.refl ρ,C,c2⟩
   |rL a H2=>
    simp only[CO.sem]at i;split at i
    ·rename_i t x;cases ht:e_ t 39 with
     |false=>rw[ht]at i;exact absurd i hX.fail
     |true=>rw[ht,cond_true]at i;have ht:=dV ht;subst ht;obtain⟨u,h3,k⟩:=rI hX fU (P:=PP) i;obtain⟨r,l,m⟩:=qC hX fU (P:=PP) h3;refine⟨.ret r u,l,BX s λc ρ w b N e=>⟨⟨x,rfl⟩,λp=>?_⟩⟩;obtain⟨j,a1,a2⟩:=k c ρ w _ (.bool false) (d ρ b N e) zB p;obtain⟨v,c1,c2⟩:=m c ρ j _ (d ρ b N e) a2;exact⟨j,v,a1,c1,ρ,Ext.refl ρ,a2,c2⟩
    ·exact absurd i hX.fail
  ·exact zR
end
end
end Go.Sx
