/- The proof of a statement of the seat, part 8. -/
import Derived.Test.YtoijalagmmgkbaaGreatDoorX07
set_option linter.all false
set_option linter.defProp false
set_option maxRecDepth 1000000
namespace Go.Sx
open Go
open Nat renaming beq->M,ble->d_,blt_eq->e_,blt->f_,le_trans->g_
open AV renaming le->z
open Option renaming some->a_,none->b_
noncomputable section
def fW(cs:List AV)(e i:Nat):List AV:=(cs.drop (i*e)).take e
def an(n:Nat)(f g:Nat->List AV):Prop := ∀i,i<n->∀σ,bt.le σ (f i) (g i)
def Zj{n:Nat}{f:Nat->List AV}(h:∀σ i,bt.le σ (f i) (f i)):an n f f:=λi _ σ=>h σ i
def ax(a b:Nat)(K:Prop):Prop:=match M a b with|true=>K|false=>a=b/\K
def aH(a b:Int)(K:Prop):Prop:=match decide (a=b)with|true=>K|false=>a=b/\K
def bI(a b:List UInt8)(K:Prop):Prop:=a=b/\K
def Zi{a b:List UInt8}{K:Prop}(h:a=b)(k:K):bI a b K:=⟨h,k⟩
def ax.ok{a b:Nat}{K:Prop}(h:ax a b K):a=b/\K:=by
 unfold ax at h
 split at h
 ·rename_i e;exact⟨dE e,h⟩
 ·exact h
def YG{a b:Nat}{K:Prop}(h:a=b)(k:K):ax a b K:=by
 unfold ax
 split
 ·exact k
 ·exact⟨h,k⟩
def aH.ok{a b:Int}{K:Prop}(h:aH a b K):a=b/\K:=by
 unfold aH at h
 split at h
 ·rename_i e;exact⟨pT e,h⟩
 ·exact h
def Zf{a b:Int}{K:Prop}(h:a=b)(k:K):aH a b K:=by
 unfold aH
 split
 ·exact k
 ·exact⟨h,k⟩
def Tw(c a:Option Nat)(K:Prop):Prop :=
 match a with
 |none=>K
 |some b=>match c with
  |some n=>ax n b K
  |none=>False
mutual
def AV.lq(σ:Nat->Nat):AV->AV->Prop->Prop
 |_,.any,K=>K
 | .bool a,.bool b,K=>a=b/\K
 | .int k x,.int u y,K=>B (decide (k=u)) (aH x y K)
 | .str s,.str t,K=>bI s t K
 | .ptr a b c d,.ptr a' h i l,K=>B (M a (σ a')) (ax b h (ax c i (ax d l K)))
 | .nilPtr,.nilPtr,K=>K
 | .slice a b c d e f,.slice a' h i l m o,K=>B (M a (σ a')&&M b h&&M f o) (ax c i (ax d l (Tw e m K)))
 | .aw,.aw,K=>K
 | .aw,.own _ n _,K=>ax n 0 K
 | .aw,.ab n _ _,K=>ax n 0 K
 | .own a b c,.own a' h i,K=>B (M a (σ a')&&M c i) (ax b h K)
 | .map b_,.map b_,K=>K
 | .map (a_ a),.map (a_ b),K=>B (M a (σ b)) K
 | .fn f a b,.fn o a' h,K=>B (M f o) (bt.lq σ a a' (bt.lq σ b h K))
 | .yield a,.yield b,K=>B (M a (σ b)) K
 | .aB,.aB,K=>K
 | .nilIface,.nilIface,K=>K
 | .iface t a,.iface v a',K=>B (M t v) (AV.lq σ a a' K)
 | .agg a,.agg b,K=>bt.lq σ a b K
 | .bK a,.bK b,K=>bt.lq σ a b K
 | .fc cs j,.fc q w,K=>B (M j w) (bt.lq σ cs q K)
 | .ab n e f,.ab C m g,K=>B (M e m) (ax n C (an n f g/\K))
 | .addr a b,.addr a' h,K=>ax a a' (ax b h K)
 |_,_,_=>False
def bt.lq(σ:Nat->Nat):List AV->List AV->Prop->Prop
 |[],[],K=>K
 |a::as,b::D,K=>AV.lq σ a b (bt.lq σ as D K)
 |_,_,_=>False
end
def Zk{b:Bool}{x:Prop}(h:B b x):b=true/\x:=by
 cases b with
 |true=>exact⟨rfl,h⟩
 |false=>exact h.elim
def PD{c a:Option Nat}{K:Prop}(h:Tw c a K):(∀x,a=a_ x->c=a_ x)/\K:=by
 unfold Tw at h
 split at h
 ·exact⟨(λ_ e=>zG),h⟩
 ·split at h
  ·obtain⟨rfl,b⟩:=ax.ok h;exact⟨λ_ e=>e,b⟩
  ·exact h.elim
mutual
def AV.eI{σ:Nat->Nat}:∀(a b:AV)(K:Prop),AV.lq σ a b K->z σ a b/\K
 | .bool _,b,K,h=>by cases b<;>simp only[AV.lq]at h<;>simp only[z]<;>simp_all
 | .int _ _,b,K,h=>by
  cases b<;>simp only[AV.lq]at h<;>simp only[z]
  ·obtain⟨d,c⟩:=Zk h;obtain⟨c,f⟩:=aH.ok c;simp only[bn]at d;exact⟨⟨d,c⟩,f⟩
  ·exact⟨trivial,h⟩
 | .str _,b,K,h=>by cases b<;>simp only[AV.lq]at h<;>simp only[z]<;>first|exact h|exact⟨trivial,h⟩
 | .ptr _ _ _ _,b,K,h=>by
  cases b<;>simp only[AV.lq]at h<;>simp only[z]
  ·obtain⟨d,c⟩:=Zk h;obtain⟨c,f⟩:=ax.ok c;obtain⟨f,j⟩:=ax.ok f;obtain⟨j,m⟩:=ax.ok j;exact⟨⟨dE d,c,f,j⟩,m⟩
  ·exact⟨trivial,h⟩
 | .nilPtr,b,K,h=>by cases b<;>simp only[AV.lq]at h<;>simp only[z]<;>simp_all
 | .slice _ _ _ _ _ _,b,K,h=>by
  cases b<;>simp only[AV.lq]at h<;>simp only[z]
  ·obtain⟨d,c⟩:=Zk h
   obtain⟨c,f⟩:=ax.ok c
   obtain⟨f,j⟩:=ax.ok f
   obtain⟨m,o⟩:=PD j
   simp only[bf]at d
   exact⟨⟨dE d.1.1,dE d.1.2,c,f,m,dE d.2⟩,o⟩
  ·exact⟨trivial,h⟩
 | .aw,b,K,h=>by cases b<;>simp only[AV.lq]at h<;>simp only[z]<;>first|exact⟨trivial,h⟩|exact ax.ok h
 | .own _ _ _,b,K,h=>by
  cases b<;>simp only[AV.lq]at h<;>simp only[z]
  ·obtain⟨d,c⟩:=Zk h
   obtain⟨c,f⟩:=ax.ok c
   simp only[bf]at d
   exact⟨⟨dE d.1,c,dE d.2⟩,f⟩
  ·exact⟨trivial,h⟩
 | .map b_,b,K,h=>by
  cases b with
  |map l=>cases l<;>simp only[AV.lq]at h;simp only[z];exact⟨trivial,h⟩
  |any=>simp only[AV.lq]at h;simp only[z];exact⟨trivial,h⟩
  |_=>simp only[AV.lq]at h
 | .map (a_ _),b,K,h=>by
  cases b with
  |map l=>
   cases l<;>simp only[AV.lq]at h
   simp only[z];obtain⟨d,c⟩:=Zk h;exact⟨dE d,c⟩
  |any=>simp only[AV.lq]at h;simp only[z];exact⟨trivial,h⟩
  |_=>simp only[AV.lq]at h
 | .fn _ x y,b,K,h=>by
  cases b<;>simp only[AV.lq]at h<;>simp only[z]
  ·obtain⟨d,c⟩:=Zk h
   obtain⟨f,j⟩:=bt.eI x _ _ c
   obtain⟨m,o⟩:=bt.eI y _ _ j
   exact⟨⟨dE d,f,m⟩,o⟩
  ·exact⟨trivial,h⟩
 | .yield _,b,K,h=>by
  cases b<;>simp only[AV.lq]at h<;>simp only[z]
  ·obtain⟨d,c⟩:=Zk h;exact⟨dE d,c⟩
  ·exact⟨trivial,h⟩
 | .aB,b,K,h=>by cases b<;>simp only[AV.lq]at h<;>simp only[z]<;>simp_all
 | .nilIface,b,K,h=>by cases b<;>simp only[AV.lq]at h<;>simp only[z]<;>simp_all
 | .iface _ x,b,K,h=>by
  cases b<;>simp only[AV.lq]at h<;>simp only[z]
  ·obtain⟨d,c⟩:=Zk h
   obtain⟨f,j⟩:=AV.eI x _ _ c
   exact⟨⟨dE d,f⟩,j⟩
  ·exact⟨trivial,h⟩
 | .agg x,b,K,h=>by
  cases b<;>simp only[AV.lq]at h<;>simp only[z]
  ·exact bt.eI x _ _ h
  ·exact⟨trivial,h⟩
 | .bK x,b,K,h=>by
  cases b<;>simp only[AV.lq]at h<;>simp only[z]
  ·exact bt.eI x _ _ h
  ·exact⟨trivial,h⟩
 | .addr _ _,b,K,h=>by
  cases b<;>simp only[AV.lq]at h<;>simp only[z]
  ·exact⟨trivial,h⟩
  ·obtain⟨d,c⟩:=ax.ok h;obtain⟨f,j⟩:=ax.ok c;exact⟨⟨d,f⟩,j⟩
 | .any,b,K,h=>by cases b<;>simp only[AV.lq]at h<;>simp only[z]<;>simp_all
 | .fc x _,b,K,h=>by
  cases b<;>simp only[AV.lq]at h<;>simp only[z]
  ·exact⟨trivial,h⟩
  ·obtain⟨d,c⟩:=Zk h
   obtain⟨f,j⟩:=bt.eI x _ _ c
   exact⟨⟨f,dE d⟩,j⟩
 | .ab _ _ _,b,K,h=>by
  cases b<;>simp only[AV.lq]at h<;>simp only[z]
  ·exact⟨trivial,h⟩
  ·obtain⟨d,c⟩:=Zk h
   obtain⟨c,f,j⟩:=ax.ok c
   exact⟨⟨c,dE d,λi hi=>f i hi σ⟩,j⟩
def bt.eI{σ:Nat->Nat}:∀(a b:List AV)(K:Prop),bt.lq σ a b K->bt.le σ a b/\K
 |[],[],K,h=>⟨by simp only[bt.le],h⟩
 |a::as,b::q,K,h=>by
  simp only[bt.lq]at h
  obtain⟨d,c⟩:=AV.eI a _ _ h
  obtain⟨f,j⟩:=bt.eI as _ _ c
  exact⟨by simp only[bt.le];exact⟨d,f⟩,j⟩
 |[],_::_,K,h=>by simp only[bt.lq]at h
 |_::_,[],K,h=>by simp only[bt.lq]at h
end
def Tr.lq(σ:Nat->Nat):Tr AV->Tr AV->Prop->Prop
 |_,.e,K=>K
 | .e,.n l v r,K=>Tr.lq σ .e l (match v with|none=>Tr.lq σ .e r K|some a=>AV.lq σ .any a (Tr.lq σ .e r K))
 | .n l v r,.n d f c,K=>Tr.lq σ l d (match f with|none=>Tr.lq σ r c K|some b=>match v with|some a=>AV.lq σ a b (Tr.lq σ r c K)|none=>AV.lq σ .any b (Tr.lq σ r c K))
def Tr.eI{σ:Nat->Nat}:∀(t o:Tr AV)(K:Prop),Tr.lq σ t o K->Tr.le σ t o/\K
 | .e,.e,K,h=>⟨by simp only[Tr.le],by simpa only[Tr.lq]using h⟩
 | .n _ _ _,.e,K,h=>⟨by simp only[Tr.le],by simpa only[Tr.lq]using h⟩
 | .e,.n l v r,K,h=>by
  simp only[Tr.lq]at h
  obtain⟨f,i⟩:=Tr.eI _ _ _ h
  cases v with
  |none=>
   obtain⟨c,d⟩:=Tr.eI _ _ _ i
   exact⟨by simp only[Tr.le];exact⟨f,trivial,c⟩,d⟩
  |some a=>
   obtain⟨c,d⟩:=AV.eI _ _ _ i
   obtain⟨j,m⟩:=Tr.eI _ _ _ d
   exact⟨by simp only[Tr.le];exact⟨f,c,j⟩,m⟩
 | .n l v r,.n s q u,K,h=>by
  simp only[Tr.lq]at h
  obtain⟨f,i⟩:=Tr.eI _ _ _ h
  cases q with
  |none=>
   obtain⟨c,d⟩:=Tr.eI _ _ _ i
   refine⟨?_,d⟩
   simp only[Tr.le]
   exact⟨f,by cases v<;>trivial,c⟩
  |some b=>
   cases v with
   |none=>
    obtain⟨c,d⟩:=AV.eI _ _ _ i
    obtain⟨j,m⟩:=Tr.eI _ _ _ d
    exact⟨by simp only[Tr.le];exact⟨f,c,j⟩,m⟩
   |some a=>
    obtain⟨c,d⟩:=AV.eI _ _ _ i
    obtain⟨j,m⟩:=Tr.eI _ _ _ d
    exact⟨by simp only[Tr.le];exact⟨f,c,j⟩,m⟩
def Access.PE:Access->Access->Bool
 | .ro,.ro=>true
 | .wr,.wr=>true
 | .ty _,.wr=>true
 | .ty e,.ty a=>M e a
 | .ex m,.ex b=>M m b
 |_,_=>false
def Access.vX:∀{a b:Access},a.PE b=true->a.le b
 | .ro,.ro,_=>trivial
 | .wr,.wr,_=>trivial
 | .ty _,.wr,_=>trivial
 | .ty _,.ty _,h=>dE h
 | .ro,.wr,h=>zE
 | .ro,.ty _,h=>zE
 | .wr,.ro,h=>zE
 | .wr,.ty _,h=>zE
 | .ty _,.ro,h=>zE
 | .ex _,.ex _,h=>dE h
 | .ex _,.ro,h=>zE
 | .ex _,.wr,h=>zE
 | .ex _,.ty _,h=>zE
 | .ro,.ex _,h=>zE
 | .wr,.ex _,h=>zE
 | .ty _,.ex _,h=>zE
def U8(σ:Nat->Nat):List (AV×AV)->List (AV×AV)->Prop->Prop
 |[],[],K=>K
 |a::as,b::c,K=>AV.lq σ a.1 b.1 (AV.lq σ a.2 b.2 (U8 σ as c K))
 |_,_,_=>False
def K8{σ:Nat->Nat}:∀(a b:List (AV×AV))(K:Prop),U8 σ a b K->(bt.le σ (a.map (·.1)) (b.map (·.1))/\bt.le σ (a.map (·.2)) (b.map (·.2)))/\K
 |[],[],K,h=>⟨by simp[bt.le],h⟩
 |a::as,b::c,K,h=>by
  simp only[U8]at h
  obtain⟨d,e⟩:=AV.eI _ _ _ h
  obtain⟨f,g⟩:=AV.eI _ _ _ e
  obtain⟨⟨i,j⟩,k⟩:=K8 as c _ g
  exact⟨by simp only[List.map_cons,bt.le];exact⟨⟨d,i⟩,f,j⟩,k⟩
 |[],_::_,K,h=>by simp only[U8]at h
 |_::_,[],K,h=>by simp only[U8]at h
def aT(a b:Code):Prop:=a=b
def K9:LoopState->LoopState->Bool
 | .ready,.ready=>true
 | .busy,.busy=>true
 | .done,.done=>true
 |_,_=>false
def BH:∀{a b:LoopState},K9 a b=true->a=b
 | .ready,.ready,_=>rfl
 | .busy,.busy,_=>rfl
 | .done,.done,_=>rfl
 | .ready,.busy,h=>zE
 | .ready,.done,h=>zE
 | .busy,.ready,h=>zE
 | .busy,.done,h=>zE
 | .done,.ready,h=>zE
 | .done,.busy,h=>zE
def vY:List Nat->List Nat->Bool
 |[],[]=>true
 |a::as,b::c=>M a b&&vY as c
 |_,_=>false
def zk:∀{a b:List Nat},vY a b=true->a=b
 |[],[],_=>rfl
 |a::as,b::c,h=>by
  simp only[vY,bf]at h
  rw[dE h.1,zk h.2]
 |[],_::_,h=>zE
 |_::_,[],h=>zE
def Gs:Bool->Bool->Bool
 |true,true=>true
 |false,false=>true
 |_,_=>false
def Ee:∀{a b:Bool},Gs a b=true->a=b
 |true,true,_=>rfl
 |false,false,_=>rfl
def Ef(n:Nat)(f g:Nat->Int):Prop := ∀i,i<n->f i=g i
def Ef.same{n:Nat}{f:Nat->Int}:Ef n f f:=λ_ _=>rfl
def Tx(n:Nat)(f g:Nat->List Int)(P Q:Nat->AV):Prop := ∀i,i<n->f i=g i/\∀σ,z σ (P i) (Q i)
def BI(σ:Nat->Nat):Option (Nat×AV)->Option (Nat×AV)->Prop->Prop
 |_,b_,K=>K
 |some (j,a),a_ (b,a'),K=>ax j b (AV.lq σ a a' K)
 |none,a_ _,_=>False
def La{σ:Nat->Nat}:∀(x y:Option (Nat×AV))(K:Prop),BI σ x y K->(∀j a',y=a_ (j,a')->∃a,x=a_ (j,a)/\z σ a a')/\K
 |_,b_,K,h=>⟨(λ_ _ e=>zG),by simpa only[BI]using h⟩
 |some (j,a),a_ (f,a'),K,h=>by
  simp only[BI]at h
  obtain⟨rfl,b⟩:=ax.ok h
  obtain⟨c,d⟩:=AV.eI _ _ _ b
  exact⟨λ_ _ e=>by cases e;exact⟨a,rfl,c⟩,d⟩
 |none,a_ _,_,h=>by simp only[BI]at h
def ai.lq(σ:Nat->Nat):ai->ai->Prop->Prop
 |_,.dead,K=>K
 | .cells cs rw,.cells u a,K=>B (rw.PE a) (bt.lq σ cs u K)
 | .rows n e f rw,.rows m G g a,K=>B (rw.PE a&&M e G) (ax n m (an n f g/\K))
 | .cells cs rw,.rows n e g a,K=>B (rw.PE a&&f_ 0 e) (ax cs.length (n*e) (an n (fW cs e) g/\K))
 | .str s rw,.str v a,K=>B (rw.PE a) (bI s v K)
 | .rows n _ f rw,.cells cs a,K=>B (rw.PE a) (bt.lq σ (rowsOf n f) cs K)
 | .map es,.map o,K=>B (Gs (dL es) (dL o)) (U8 σ (gK es) (gK o) K)
 | .tE,.tE,K=>K
 | .iter l,.iter w,K=>B (M l (σ w)) K
 | .iy n f,.iy m g,K=>ax n m (Ef n f g/\K)
 | .map es,.iy n _,K=>match es with|[]=>ax 0 n K|_::_=>False
 | .dX l s S,.dX w v H,K=>B (M l (σ w)) (ax s v (S=H/\K))
 | .cT n f P foc,.cT m g Q q,K=>ax n m (Tx n f g P Q/\BI σ foc q K)
 | .map es,.cT n _ _ foc,K=>match es,foc with|[],b_=>ax 0 n K|_,_=>False
 | .loop y b_ t nt C as D df,.loop b b_ E c d h i j,K=>B (K9 y b&&M nt c&&vY C d&&M df (σ j)) (aT as h/\aT D i/\Tr.lq σ t E K)
 | .loop y (a_ I) t nt C as D df,.loop b (a_ F) E c d h i j,K=>B (K9 y b&&M nt c&&vY C d&&M df (σ j)) (aT I F/\aT as h/\aT D i/\Tr.lq σ t E K)
 |_,_,_=>False
def ai.eI{σ:Nat->Nat}(a b:ai)(K:Prop)(h:ai.lq σ a b K):a.le σ b/\K:=by
 unfold ai.lq at h
 split at h
 ·exact⟨by simp only[ai.le],h⟩
 ·obtain⟨c,d⟩:=Zk h
  obtain⟨f,j⟩:=bt.eI _ _ _ d
  exact⟨⟨f,Access.vX c⟩,j⟩
 ·obtain⟨c,d⟩:=Zk h
  obtain⟨d,f,j⟩:=ax.ok d
  simp only[bf]at c
  exact⟨⟨d,dE c.2,λi hi=>f i hi σ,Access.vX c.1⟩,j⟩
 ·obtain⟨c,d⟩:=Zk h
  obtain⟨d,f,j⟩:=ax.ok d
  simp only[bf,e_]at c
  exact⟨⟨d,λi hi=>f i hi σ,c.2,Access.vX c.1⟩,j⟩
 ·obtain⟨c,d,f⟩:=Zk h
  exact⟨⟨d,Access.vX c⟩,f⟩
 ·obtain⟨c,d⟩:=Zk h
  obtain⟨f,j⟩:=bt.eI _ _ _ d
  exact⟨⟨f,Access.vX c⟩,j⟩
 ·obtain⟨m,h⟩:=Zk h
  obtain⟨c,d⟩:=K8 _ _ _ h
  exact⟨⟨Ee m,c⟩,d⟩
 ·exact⟨trivial,h⟩
 ·obtain⟨c,d⟩:=Zk h
  exact⟨dE c,d⟩
 ·obtain⟨c,d,f⟩:=ax.ok h
  exact⟨⟨c,d⟩,f⟩
 ·split at h
  ·obtain⟨c,d⟩:=ax.ok h
   exact⟨⟨rfl,c.symm⟩,d⟩
  ·exact h.elim
 ·obtain⟨c,d⟩:=Zk h
  obtain⟨f,j,l⟩:=ax.ok d
  exact⟨⟨dE c,f,j⟩,l⟩
 ·obtain⟨c,d,f⟩:=ax.ok h
  obtain⟨j,l⟩:=La _ _ _ f
  exact⟨⟨c,λi hi=>(d i hi).1,λi hi=>(d i hi).2 σ,j⟩,l⟩
 ·split at h
  ·obtain⟨c,d⟩:=ax.ok h
   exact⟨⟨rfl,c.symm,rfl⟩,d⟩
  ·exact h.elim
 ·obtain⟨c,d,f,j⟩:=Zk h
  obtain⟨l,o⟩:=Tr.eI _ _ _ j
  simp only[bf]at c
  exact⟨⟨BH c.1.1.1,rfl,l,dE c.1.1.2,zk c.1.2,d,f,dE c.2⟩,o⟩
 ·obtain⟨c,m,d,f,j⟩:=Zk h
  obtain⟨l,o⟩:=Tr.eI _ _ _ j
  simp only[bf]at c
  exact⟨⟨BH c.1.1.1,congrArg a_ m,l,dE c.1.1.2,zk c.1.2,d,f,dE c.2⟩,o⟩
 ·exact h.elim
mutual
def AV.gj:AV->AV->List (Nat×Nat)->List (Nat×Nat)
 | .ptr l _ _ _,.ptr c _ _ _,K=>(c,l)::K
 | .slice l _ _ _ _ _,.slice c _ _ _ _ _,K=>(c,l)::K
 | .own l _ _,.own c _ _,K=>(c,l)::K
 | .map (a_ l),.map (a_ c),K=>(c,l)::K
 | .yield l,.yield c,K=>(c,l)::K
 | .fn _ a b,.fn _ a' d,K=>bt.gj a a' (bt.gj b d K)
 | .iface _ a,.iface _ a',K=>AV.gj a a' K
 | .agg a,.agg b,K=>bt.gj a b K
 | .bK a,.bK b,K=>bt.gj a b K
 |_,_,K=>K
def bt.gj:List AV->List AV->List (Nat×Nat)->List (Nat×Nat)
 |a::as,b::f,K=>AV.gj a b (bt.gj as f K)
 |_,_,K=>K
end
def Tr.gj:Tr AV->Tr AV->List (Nat×Nat)->List (Nat×Nat)
 | .n l v r,.n d f c,K=>Tr.gj l d (match v with|some a=>(match f with|some b=>AV.gj a b (Tr.gj r c K)|none=>Tr.gj r c K)|none=>Tr.gj r c K)
 |_,_,K=>K
def ai.gj:ai->ai->List (Nat×Nat)
 | .cells a _,.cells b _=>bt.gj a b []
 | .map a,.map b=>bt.gj (a.map (·.2)) (b.map (·.2)) []
 | .dX l _ _,.dX c _ _=>[(c,l)]
 | .cT _ _ _ (a_ a),.cT _ _ _ (a_ b)=>AV.gj a.2 b.2 []
 |_,_=>[]
def look(x:Nat):List (Nat×Nat)->Option Nat
 |[]=>b_
 |(a,b)::r=>bif M a x then a_ b else look x r
def Gt(n0:Nat)(H H':AH):Nat->List (Nat×Nat)->List (Nat×Nat)->List (Nat×Nat)
 |0,acc,_=>acc
 |_+1,acc,[]=>acc
 |d+1,acc,(a,b)::r=>bif f_ a n0 then Gt n0 H H' d acc r else match look a acc with
  |some _=>Gt n0 H H' d acc r
  |none=>Gt n0 H H' d ((a,b)::acc) ((H.get b).gj (H'.get a)++r)
def BJ(H H':AH):Nat->List (Nat×Nat)->List (Nat×Nat)
 |0,K=>K
 |n+1,K=>BJ H H' n ((H.get n).gj (H'.get n)++K)
def vZ(n0:Nat)(H H':AH)(a:List (Nat×Nat)):List Nat :=
 (List.range (H'.n-n0)).map λq=>match look (n0+q) (Gt n0 H H' 1000 [] (BJ H H' n0 a))with|some x=>x|none=>H.n+(n0+q)
def Lb:ai->Prop->Prop
 | .cells [] _,K=>K
 | .rows n _ _ _,K=>ax n 0 K
 | .str s _,K=>bI s [] K
 |_,_=>False
def Lc{b:ai}{K:Prop}(h:Lb b K):b.nothing/\K:=by
 unfold Lb at h
 split at h
 ·exact⟨rfl,h⟩
 ·exact ax.ok h
 ·exact h
 ·exact h.elim
def qD(σ:Nat->Nat)(N:Nat)(H H':AH):Nat->Prop->Prop
 |0,K=>K
 |n+1,K=>match H'.get n with
  | .dead=>qD σ N H H' n K
  |b=>match f_ (σ n) N with
   |true=>ai.lq σ (H.get (σ n)) b (qD σ N H H' n K)
   |false=>Lb b (qD σ N H H' n K)
def Eg(n0:Nat)(a:List Nat)(H H':AH)(K:Prop):Prop :=
 B (M (n0+a.length) H'.n&&(a.all λx=>d_ n0 x||(H'.get x).Ab)&&sK a&&H'.PB&&d_ n0 H.n) (qD (sig n0 a H.n) H.n H H' H'.n K)
def yz{σ:Nat->Nat}{N:Nat}{H H':AH}:∀{n:Nat}{K:Prop},qD σ N H H' n K->(∀l,l<n->tO σ N l H (H'.get l))/\K
 |0,K,h=>⟨λl hl=>absurd hl (lZ _),h⟩
 |n+1,K,h=>by
  have key:tO σ N n H (H'.get n)/\qD σ N H H' n K:=by
   unfold qD at h
   split at h
   ·rename_i e
    rw[e];exact⟨trivial,h⟩
   ·rename_i c
    unfold tO
    split
    ·rename_i e;exact absurd e c
    ·split at h
     ·rename_i b
      obtain⟨d,f⟩:=ai.eI _ _ _ h
      rw[if_pos (by rwa[e_]at b)]
      exact⟨d,f⟩
     ·rename_i b
      rw[if_neg (by intro a;rw[<-e_]at a;rw[a]at b;cases b)]
      exact Lc h
  obtain⟨d,f⟩:=yz key.2
  refine⟨λl hl=>?_,f⟩
  by_cases e:l=n
  ·subst e;exact key.1
  ·exact d l O
def yA{n0:Nat}{a:List Nat}{H H':AH}{K:Prop}(h:Eg n0 a H H' K):im n0 a H H'/\K:=by
 obtain⟨b,c⟩:=Zk h
 obtain⟨d,e⟩:=yz c
 simp only[bf]at b
 obtain⟨⟨⟨⟨a1,a2⟩,f⟩,a4⟩,g⟩:=b
 exact⟨im.of (dE a1) a2 f a4 g (gS.2 d),e⟩
def uQ:List Nat->List Nat->Bool
 |[],[]=>true
 |a::as,b::c=>M a b&&uQ as c
 |_,_=>false
def v7:∀{a b:List Nat},uQ a b=true->a=b
 |[],[],_=>rfl
 |a::as,b::c,h=>by
  simp only[uQ,bf]at h
  rw[dE h.1,v7 h.2]
 |[],_::_,h=>zE
 |_::_,[],h=>zE
def mF(n0:Nat)(s a:St)(K:Prop):Prop :=
 Eg n0 (vZ n0 s.H a.H (Tr.gj s.t a.t [])) s.H a.H
  (B (M s.nt a.nt&&uQ s.df (a.df.map (sig n0 (vZ n0 s.H a.H (Tr.gj s.t a.t [])) s.H.n)))
   (Tr.lq (sig n0 (vZ n0 s.H a.H (Tr.gj s.t a.t [])) s.H.n) s.t a.t K))
def mF.ok{n0:Nat}{s b:St}{K:Prop}(h:mF n0 s b K):St.Le n0 s b/\K:=by
 obtain⟨c,d⟩:=yA h
 obtain⟨a,f⟩:=Zk d
 obtain⟨i,j⟩:=Tr.eI _ _ _ f
 simp only[bf]at a
 exact⟨St.VA _ c (dE a.1) i (v7 a.2),j⟩
def qa(n0:Nat)(a:AV)(H:AH)(a':AV)(H':AH)(K:Prop):Prop :=
 Eg n0 (vZ n0 H H' (AV.gj a a' [])) H H' (AV.lq (sig n0 (vZ n0 H H' (AV.gj a a' [])) H.n) a a' K)
def qa.ok{n0:Nat}{a a':AV}{H H':AH}{K:Prop}(h:qa n0 a H a' H' K):ky n0 a H a' H'/\K:=by
 obtain⟨b,c⟩:=yA h
 obtain⟨d,f⟩:=AV.eI _ _ _ c
 exact⟨ky.of _ b d,f⟩
inductive GE where
 |one (e:aQ)
 |cond (b:Bool) (x a:GE)
def GE.pick:GE->aQ
 | .one e=>e
 | .cond b x y=>match b with|true=>x.pick|false=>y.pick
def aQ.run{R:Type}(k:KS R):aQ->R
 | .n s=>k.n s
 | .x i s=>k.x i s
 | .g i s=>k.g i s
 | .r s=>k.r s
 | .p a s=>k.p a s
def aQ.pw{R:Type}{sem:R->Prop}{k:KS R}{e:aQ}(h:sem (e.run k)):e.sem sem k:=by cases e<;>exact h
def GE.run(k:KS Prop):GE->Prop
 | .one e=>e.run k
 | .cond b x y=>ah b (x.run k) (y.run k)
def GE.pw{k:KS Prop}:∀{e:GE},e.run k->e.pick.sem id k
 | .one e,h=>aQ.pw (sem:=id) h
 | .cond b x y,h=>by
  cases b with
  |true=>exact GE.pw (e:=x) h
  |false=>exact GE.pw (e:=y) h
def iB(key:Nat):Code->Option Code
 | .seq a b=>match iB key a with|some c=>a_ c|none=>iB key b
 | .cond _ a b=>match iB key a with|some c=>a_ c|none=>iB key b
 | .block _ c=>iB key c
 | .scope c=>iB key c
 | .rangeFunc _ _ a b=>match iB key a with|some c=>a_ c|none=>iB key b
 | .loop c=>bif M (kM c) key then a_ c else iB key c
 |_=>b_
def aD(I:ba)(f:FuncId)(key:Nat):Code :=
 match I.body f with
 |some (c,_,_)=>match iB key c with|some c=>c|none=> .skip
 |none=> .skip
def ia:Code->Option (List Tmp×Code×Code)
 | .seq a b=>match ia a with|some c=>a_ c|none=>ia b
 | .cond _ a b=>match ia a with|some c=>a_ c|none=>ia b
 | .block _ c=>ia c
 | .scope c=>ia c
 | .rangeFunc _ d a b=>a_ (d.toList,a,b)
 | .loop c=>ia c
 |_=>b_
def bg(I:ba)(f:FuncId):Code :=
 match I.body f with
 |some (c,_,_)=>match ia c with|some (_,a,_)=>a|none=> .skip
 |none=> .skip
def bh(I:ba)(f:FuncId):Code :=
 match I.body f with
 |some (c,_,_)=>match ia c with|some (_,_,b)=>b|none=> .skip
 |none=> .skip
structure aE (P:Program) (I:ba) (ir:Bool) (c:Code) (n0:Nat) (s:St) (g:GE):Prop where
 h:∀s0,s0.H.n=n0->St.Le n0 s0 s->ew P I ir (.code (.loop c)) s0 g.pick
abbrev lI:=List (Nat×Nat×St×GE)
def VC(k:Nat):lI->Option (Nat×St×GE)
 |[]=>b_
 |(a,b)::r=>bif M a k then a_ b else VC k r
def R5(k n:Nat):lI->Option (Nat×St×GE)
 |[]=>b_
 |(a,b)::r=>bif M a k&&M b.1 n then a_ b else R5 k n r
def R6(k n:Nat)(T:lI):Option (Nat×St×GE):=match R5 k n T with|some x=>a_ x|none=>VC k T
structure nJ (P:Program) (I:ba) (ir:Bool) (r c:Code) (n0:Nat) (s:St) (g:GE):Prop where
 h:∀s0,s0.H.n=n0->St.Le n0 s0 s->ew P I ir (.inScope r c) s0 g.pick
def St.Il(s:St)(n:Nat):St:={s with H:={s.H with n:=n}}
def ew.Il{P:Program}{I:ba}{ir:Bool}{t:Task}{s:St}{e:aQ}{n:Nat}(h:ew P I ir t (s.Il n) e)(hn:s.H.n<=n):ew P I ir t s e:=λro m c ρ a w d f b=>by
 have r:=b.heap
 refine h ro m c ρ a w d f ⟨b.tmp,?_,b.df⟩
 exact {r with top:=λl hl=>r.top l (g_ hn hl),env:=λl hl=>⟨Nat.lt_of_lt_of_le (r.env l hl).1 hn,(r.env l hl).2⟩,low:=λl hl=>r.low l (g_ hn hl)}
def mG(P:Program)(I:ba)(T:lI):gy Prop:=λir t s=>match t with
 | .code (.loop c)=>match R6 (kM c) s.H.n T with
  |none=>b_
  |some (n0,a,g)=>a_ λk=>aE P I ir c n0 a g/\B (d_ s.H.n n0) (mF n0 (s.Il n0) a (g.run k))
 | .inScope r c=>match R6 (500000+kM r) s.H.n T with
  |none=>b_
  |some (n0,a,g)=>a_ λk=>nJ P I ir r c n0 a g/\B (d_ s.H.n n0) (mF n0 (s.Il n0) a (g.run k))
 |_=>b_
def bm(P:Program)(I:ba)(T:lI):eR P I id (mG P I T):=by
 intro ir t s g h k f
 unfold mG at h
 split at h
 ·split at h
  ·cases h
  ·cases h
   obtain⟨b,a⟩:=f
   obtain⟨c,a⟩:=Zk a
   obtain⟨d,e⟩:=mF.ok a
   exact⟨_,GE.pw e,(b.h (s.Il _) A d).Il (jX c)⟩
 ·split at h
  ·cases h
  ·cases h
   obtain⟨b,a⟩:=f
   obtain⟨c,a⟩:=Zk a
   obtain⟨d,e⟩:=mF.ok a
   exact⟨_,GE.pw e,(b.h (s.Il _) A d).Il (jX c)⟩
 ·cases h
structure Next {ι:Type} (n0:Nat) (a:ι->Prop) (b:ι->St) (E:ι->GE) (μ:ι->Nat) (i:ι) (s:St):Prop where
 h:∃c,a c/\μ c<μ i/\St.Le n0 s (b c)/\(E c).pick=(E i).pick
def Eh(n0:Nat)(e:aQ)(g:aQ):Prop :=
 match e,g with
 | .n s,.n a=>mF n0 s a True
 | .x i s,.x j a=>B (M i j) (mF n0 s a True)
 | .g i s,.g j a=>B (M i j) (mF n0 s a True)
 | .r s,.r a=>mF n0 s a True
 |_,_=>False
def H5{n0:Nat}{e g:aQ}(h:Eh n0 e g):aQ.Le n0 e g:=by
 unfold Eh at h
 split at h
 ·exact h.ok.1
 ·obtain⟨a,b⟩:=Zk h;exact⟨dE a,b.ok.1⟩
 ·obtain⟨a,b⟩:=Zk h;exact⟨dE a,b.ok.1⟩
 ·exact h.ok.1
 ·exact h.elim
def GE.meets(n0:Nat)(e:aQ):GE->Prop
 | .one g=>Eh n0 e g
 | .cond b x y=>ah b (x.meets n0 e) (y.meets n0 e)
def GE.fg{n0:Nat}{e:aQ}:∀{g:GE},g.meets n0 e->aQ.Le n0 e g.pick
 | .one g,h=>H5 h
 | .cond b x y,h=>by
  cases b with
  |true=>exact GE.fg (g:=x) h
  |false=>exact GE.fg (g:=y) h
def tP{ι:Type}(n0:Nat)(S:ι->St)(E:ι->GE)(a:ι->ι)(Q:Prop)(i:ι):KS Prop :=
 {n:=λs=>mF n0 s (S (a i)) Q
  x:=λb s=>(E i).meets n0 (.x b s)
  g:=λb s=>(E i).meets n0 (.g b s)
  r:=λs=>(E i).meets n0 (.r s)
  p:=λ_ _=>False}
def aE.of{P:Program}{I:ba}(hI:I.Ok P)(ks:List (aC P I)){u:gy Prop}(m:eR P I id u)(fuel:Nat){ι:Type}{c:Code}{ir:Bool}(n0:Nat)(J:ι->Prop)(S:ι->St)(E:ι->GE)(f:ι->Nat)(d:ι->ι)(o:ι)
  (q:d_ I.G n0=true) (v:J o)
  (j:∀i,J i->uA ks u fuel ir (.code c) (S i) (tP n0 S E d (J (d i)/\f (d i)<f i/\(E (d i)).pick=(E i).pick) i)):aE P I ir c n0 (S o) (E o) where
 h s0 t w:=by
  subst t
  refine qA (S:=S) (E:=λi=>(E i).pick) (J:=J) f (jX q) v w λi hi=>?_
  obtain⟨e,l,y⟩:=nH hI ks m fuel ir _ _ _ (j i hi)
  refine⟨e,y,?_⟩
  cases e with
  |n s=>
   obtain⟨k1,k2,C,D⟩:=mF.ok (K:=J (d i)/\f (d i)<f i/\(E (d i)).pick=(E i).pick) l
   exact⟨d i,k2,C,k1,D⟩
  |x b s=>exact GE.fg (g:=E i) l
  |g b s=>exact GE.fg (g:=E i) l
  |r s=>exact GE.fg (g:=E i) l
  |p a s=>exact(l:False).elim
abbrev zyN(a:Nat)(K:Prop):Prop:=ax a a K
abbrev zyI(a:Int)(K:Prop):Prop:=aH a a K
abbrev zyB(a:List UInt8)(K:Prop):Prop:=bI a a K
abbrev zyR(n:Nat)(f:Nat->List AV)(K:Prop):Prop:=an n f f/\K
def AH.one(G:Nat)(b:ai):AH:={n:=G+1,t:=Tr.set .e G b}
def AH.iJ(G)(b)(l):(AH.one G b).get l=if l=G then b else .dead:=by
 simp only[AH.one,AH.get,Tr.bH,Tr.qV]
 grind
def af.VD{P I f args j a a' b d H l}(h:af P I f args (AH.one I.G b) (.ret a (AH.one I.G d)))(hG:I.G<=l)(hl:l<H.n)(K:H.get l=b)
  (L:∀σ,b.bD σ=b) (v:∀σ,d.bD σ=d) (y:∀σ,σ I.G=l->bt.bD σ args=j) (C:∀σ,σ I.G=l->a.bD σ=a') (D:b≠ .dead):af P I f j H (.ret a' (H.set l d)):=by
 intro c ρ w vs s E t
 let σ:Nat->Nat:=λi=>if i<I.G then i else if i=I.G then l else H.n+(i-(I.G+1))
 have o:σ I.G=l:=by simp[σ]
 have q:∀i,i<I.G->σ i=i:=λi hi=>Y
 have m:∀i,I.G+1<=i->σ i=H.n+(i-(I.G+1)):=λi hi=>by
  grind
 have F:Sub I.G σ (AH.one I.G b) H :=
  {lt:=λi hi=>by
    have hi:i<I.G+1:=hi
    grind
   ge:=λi hi=>m i hi
   same:=λi hi=>by
    rw[AH.iJ]at hi⊢
    grind
   inj:=Y
   fp:=λg u=>⟨Nat.lt_succ_of_lt u,q g u⟩
   low:=λi hi=>by
    have hi:I.G+1<=i:=hi
    rw[AH.iJ,if_neg O]}
 have ht:Eb σ (AH.one I.G b) (CO.ret a (AH.one I.G d)).heap H (H.set l d):=
  {n:=by show H.n=H.n+((I.G+1)-(I.G+1));omega
   old:=λi hi=>by
    show(H.set l d).get (σ i)=((AH.one I.G d).get i).bD σ
    rw[AH.iJ]at hi⊢
    by_cases e:i=I.G
    ·rw[if_pos e,e,o,AH.get_set_same,v]
    grind
   new:=λi hi=>by
    have hi:I.G+1<=i:=hi
    show(H.set l d).get (σ i)=((AH.one I.G d).get i).bD σ
    rw[AH.iJ,if_neg O,m i hi,AH.bk _ _ O,t.low _ O]
    rfl
   rest:=λi hi J=>by
    have:i≠l:=λe=>by
     have N:=J I.G (by rw[AH.iJ,if_pos A];exact D)
     omega
    exact AH.bk _ _ O}
 have:=h.lift F ht
 rw[y σ o]at this
 have e:(CO.ret a (AH.one I.G d)).iT σ (H.set l d)= .ret a' (H.set l d):=by
  show CO.ret (a.bD σ) (H.set l d)=_
  rw[C σ o]
 rw[e]at this
 exact this c ρ w vs s E t
end
end Go.Sx
