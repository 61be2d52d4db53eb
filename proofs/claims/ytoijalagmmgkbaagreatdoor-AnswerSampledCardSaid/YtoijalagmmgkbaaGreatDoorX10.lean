/- Lemmas, part 10. -/
import Derived.Test.YtoijalagmmgkbaaGreatDoorX09
set_option linter.all false
set_option linter.defProp false
set_option maxRecDepth 1000000
namespace Go.Sx
open Go
open Int renaming ofNat->M,toNat_natCast->c_
open Bool renaming not_eq_false'->z,not_eq_true'->a_
open Nat renaming div_eq_of_lt->d_,div_one->g_,beq->j_
noncomputable section
def TK(k m:Nat)(a B:Nat->Int)(r:Int)(b:LoopState)(c:Option Code):AH:={n:=17,t:=Tr.ofList [(12,qc m B),(13,.cells [.int .i64 r] (.ty 3)),(14,qc k a),(15,.tE),(16,.loop b c (Tr.ofList [(3,.ptr 12 0 0 0),(4,.ptr 13 0 0 0)]) 33 [19,20] (bg II 112) (bh II 112) 15)]}
def Iu(k m:Nat)(a B:Nat->Int)(j:Int):St:={t:=Tr.ofList [(0,.yield 16),(1,.ptr 14 0 0 0),(3,.int .i64 j)],nt:=19,H:=TK k m a B 0 .ready none,df:=[]}
def Iv(k m:Nat)(a B:Nat->Int)(b:Bool)(r:Int):GE:=.cond b (.one (.r {t:=.e,nt:=19,H:=TK k m a B r .done (some .ret),df:=[]})) (.one (.x 0 {t:=.e,nt:=19,H:=TK k m a B 0 .ready none,df:=[]}))
def Iw(k m)(a B)(b)(r j)(Q):(kr [ov] [] 212 1002 17 (Iu k m a B) (λ_=>Iv k m a B b r) (λj=>j-1) Q j)=(ah (decide (j>=0)) (aa (decide (0<=j)&&decide (j<M k)) (aa (decide (0<=j)&&decide (j<M m)) (ah (!decide (a j.toNat=B j.toNat)) (aa (decide (0<=j)&&decide (j<M m)) (ah b (aT Code.ret Code.ret/\aT (bg II 112) (bg II 112)/\aT (bh II 112) (bh II 112)/\zyN k (zyR k (ae a) (aH (sP (a j.toNat) (B j.toNat)) r (zyN m (zyR m (ae B) True))))) False)) (aa (aN .i64 (j-1)) (aT (bg II 112) (bg II 112)/\aT (bh II 112) (bh II 112)/\zyN k (zyR k (ae a) (zyN m (zyR m (ae B) (zyI (j-1) Q))))))))) (ah b False (aT (bg II 112) (bg II 112)/\aT (bh II 112) (bh II 112)/\zyN k (zyR k (ae a) (zyN m (zyR m (ae B) True)))))):=U
def P2(k m)(a B)(b)(r)(Q):(kb [ov] [(1002,17,Iu k m a B (M k-1),Iv k m a B b r)] 112 [.ab k 1 (ae a),.ab m 1 (ae B)] Q)=(ah (!decide (M k=M m)) (Q (AV.int .i64 (sP (M k) (M m)))) (aa (aN .i64 (M k-1)) (eu PP II false (aD II 212 1002) 17 (Iu k m a B (M k-1)) (Iv k m a B b r)/\aT (bg II 112) (bg II 112)/\aT (bh II 112) (bh II 112)/\zyN k (zyR k (ae a) (zyN m (zyR m (ae B) (zyI (M k-1) (ah b (Q (AV.int .i64 r)) (Q (AV.int .i64 0)))))))))):=U
def BW(x y):sP (M x) (M y)=DA x y:=by
 unfold sP DA
 simp
def Ix{a b}(k:ar a=ar b)(hl:ar a<=1000000):eu PP II false (aD II 212 1002) 17 (Iu (ar a) (ar b) (aO a) (aO b) (M (ar a)-1)) (Iv (ar a) (ar b) (aO a) (aO b) (!decide (a=b)) (DA a b)):=
 eu.of (ι:=Int) Hs [ov] (bm PP II []) 1000 17 (λj=> -1<=j/\j<ar a/\a/10000^(j+1).toNat=b/10000^(j+1).toNat) (Iu (ar a) (ar b) (aO a) (aO b)) (λ_=>Iv (ar a) (ar b) (aO a) (aO b) (!decide (a=b)) (DA a b)) (λj=>(j+1).toNat) (λj=>j-1) (M (ar a)-1) A
  ⟨Y,Y,by
   have e:(M (ar a)-1+1).toNat=ar a:=by show((ar a:Int)-1+1).toNat=_;omega
   rw[e,d_ (fY a),k,d_ (fY b)]⟩ λj ⟨h1,l,d⟩=>by
  refine(Iw (ar a) (ar b) (aO a) (aO b) _ _ j _).mpr ?_
  refine Zh (λh=>?_) λh=>?_
  ·simp only[bn]at h
   obtain⟨i,rfl⟩:∃i:Nat,j=(i:Int):=⟨j.toNat,O⟩
   have e1:((i:Int)+1).toNat=i+1:=O
   rw[e1]at d
   have m:(i:Int)<M (ar b):=by rw[<-k];exact l
   refine Ze (nM h l) (Ze (nM h m) (Zh (λf=>Ze (nM h m) ?_) λf=>Ze (aq O O) ?_))
   ·simp only[a_,iK,c_]at f
    have c:ob a i≠ob b i:=λe=>f (by show M (ob a i)=M (ob b i);rw[e])
    have g:(!decide (a=b))=true:=by simp only[a_,iK];intro e;rw[e]at c;exact c A
    rw[g]
    refine⟨rfl,rfl,rfl,YG A ⟨dG _ _,Zf ?_ (YG A ⟨dG _ _,trivial⟩)⟩⟩
    show sP (M (ob a i)) (M (ob b i))=_
    rw[BW,Lw d c]
    unfold DA
    omega
   ·simp only[z,bn,c_]at f
    have n:ob a i=ob b i:=Int.ofNat.inj f
    refine⟨rfl,rfl,YG A ⟨dG _ _,YG A ⟨dG _ _,Zf A ⟨⟨O,O,?_⟩,O,rfl⟩⟩⟩⟩
    have o:((i:Int)-1+1).toNat=i:=O
    rw[o]
    exact Lx d n
  ·simp only[iK]at h
   have e1:(j+1).toNat=0:=O
   rw[e1,Nat.pow_zero,g_,g_]at d
   rw[bW d]
   exact⟨rfl,rfl,YG A ⟨dG _ _,YG A ⟨dG _ _,trivial⟩⟩⟩
def GD{a b}(ha:ar a<=1000000):af PP II 112 [.ab (ar a) 1 (aG a),.ab (ar b) 1 (aG b)] (AH.blank 12) (.ret (.int .i64 (DA a b)) (AH.blank 12)):=by
 refine bY (T:=[(1002,17,Iu (ar a) (ar b) (aO a) (aO b) (M (ar a)-1),Iv (ar a) (ar b) (aO a) (aO b) (!decide (a=b)) (DA a b))]) (λ_=>⟨rfl,rfl⟩) ((P2 (ar a) (ar b) (aO a) (aO b) _ _ _).mpr ?_)
 refine Zh (λh=>?_) λh=>Ze (aq Y Y) ?_
 ·simp only[a_,iK]at h
  have c:ar a≠ar b:=λe=>h (by rw[e])
  rw[BW,PU c]
  unfold DA
  grind
 ·simp only[z,bn]at h
  have f:ar a=ar b:=Int.ofNat.inj h
  refine⟨Ix f ha,rfl,rfl,YG A ⟨dG _ _,YG A ⟨dG _ _,Zf A (Zh (λ_=>rfl) λd=>?_)⟩⟩⟩
  simp only[z,bn]at d
  subst d
  unfold DA
  simp
def GF:aC PP II:=aC.pure 112
 (λX args c=>match args with
  |[.ab k 1 f,.ab m 1 g]=>X.bq (cO k f&&cO m g&&j_ k (ar (numOf k f))&&j_ m (ar (numOf m g))&&Nat.ble k 1000000) (c (.int .i64 (DA (numOf k f) (numOf m g))))
  |_=>X.fail)
 λX sem hX args c h=>by
  split at h
  ·rename_i k f m g
   obtain⟨d,e⟩:=hX.bq _ _ h
   simp only[bf]at d
   obtain⟨⟨⟨⟨a1,a2⟩,i⟩,j⟩,l⟩:=d
   have n:=dE i
   have o:=dE j
   have p:=jX l
   have l1:=gT a1
   have l2:=gT a2
   refine⟨_,e,λ_=>rfl,λ_=>rfl,?_⟩
   refine(GD (a:=numOf k f) (b:=numOf m g) O).dq ⟨⟨n,rfl,l1.2.2⟩,⟨o,rfl,l2.2.2⟩,trivial⟩
  ·exact zR
end
end Go.Sx
