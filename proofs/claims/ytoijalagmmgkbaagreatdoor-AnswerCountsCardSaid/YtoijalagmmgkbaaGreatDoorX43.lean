/- The proof of a statement of the seat, part 43. -/
import Derived.Test.YtoijalagmmgkbaaGreatDoorX41
import Derived.Test.YtoijalagmmgkbaaGreatDoorX42
import Derived.OpenShut
import Derived.ReadAgain
import Derived.ChangeStays
import Derived.ChangeSame
import Derived.Deep.Slices
import Derived.Test.YtoijalagmmgkbaaGreatDoorX07
import Derived.Test.YtoijalagmmgkbaaGreatDoorX05
set_option linter.all false
set_option linter.defProp false
section
set_option maxRecDepth 1000000
namespace Go.Sx
open Go
theorem Ik:∀c,pM (ru (pS eu)) c=c
 |0=>rfl
 |c+1=>by
  show pM (ru (pS eu)) c+ao [49]=c+1
  rw[Ik c,il]
theorem RD{q:Query}{k:Nat}{F:Nat->ay}(n:Nat)(K:Nat->Nat->Int)(S:Nat->Nat->List UInt8)(i:Int)(c p:Int->Nat)(cE f:Nat)(x:Int)(b a:Nat)(hx:x=(b:Int))(D:b<k)(E:k<=400)(hi:i=(a:Int))(ha:a<n)(e:ct q=true)(g:bB (F b)=true)(l:c x<=b)(m:p x<=b)(d:jA q (F b)=true->gk q (F b)=true)
  (o:c (x+1)=c x+(bif A9 q.ng (aj q (F b)) (K a)&&jA q (F b)then 1 else 0)) (r:p (x+1)=p x+(bif A9 q.ng (aj q (F b)) (K a)&&gk q (F b)then 1 else 0)) (Q:Prop) (hQ:Q):
  kr [qj q q.ng,Oq q,FR,W4] [] 9 14004 25 (Rz q k F n K S i c p) (λ_=>RC q k F n K S i cE f) (λx=>x+1) Q x:=by
 have G:Int.ofNat k=(k:Int):=rfl
 have H:Int.ofNat n=(n:Int):=rfl
 have I:=Xs e
 have s:=pn eu (c x) (λj σ=>pr σ j) A
 have sp:=pn eu (p x) (λj σ=>pr σ j) A
 have t:(decide (0<=x)&&decide (x<Int.ofNat k))=true:=by simp only[bf,bn];omega
 have u:(decide (0<=i)&&decide (i<Int.ofNat n))=true:=by simp only[bf,bn];omega
 have v:(decide (c x<=c x)&&true&&true&&decide ((c x+1)*32<=140737488355328)&&true)=true:=by rw[bW (dw _),bW (O:(c x+1)*32<=140737488355328)];rfl
 have y:(decide (p x<=p x)&&true&&true&&decide ((p x+1)*32<=140737488355328)&&true)=true:=by rw[bW (dw _),bW (O:(p x+1)*32<=140737488355328)];rfl
 have C:aN .i64 (x+1)=true:=aq O O
 rw[Ot,o,r,show Int.toNat x=b by omega,show Int.toNat i=a by omega,show aM (ae (aj q (F b)))=aj q (F b)from rfl,show aM (ae (K a))=K a from rfl,jv,e,g,kc,kc,ni,kV (O:q.ng<=1000000),t,u,v,y,C,GR]
 refine Zg (λ_=>?_) λh=>absurd (O:x<Int.ofNat k) h
 refine cC _ _ A (cC _ _ A (cC _ _ A (cC _ _ A (cC _ _ A (cC _ _ A ?_)))))
 generalize A9 q.ng (aj q (F b)) (K a)=w
 cases w with
 |false=>
  show ah true _ _
  refine Zh (λ_=>?_) λh=>zE
  exact ZL
 |true=>
  show ah false _ _
  refine Zh (λh=>zE) λ_=>?_
  generalize jA q (F b)=mc at d⊢
  generalize gk q (F b)=mp at d⊢
  cases mc<;>cases mp
  ·refine Zh (λh=>zE) λ_=>Zh (λh=>zE) λ_=>?_
   exact ZL
  ·refine Zh (λh=>zE) λ_=>Zh (λ_=>?_) λh=>by cases h
   repeat' (first|with_reducible exact hQ|with_reducible exact trivial|with_reducible refine cC _ _ A ?_|with_reducible exact nf _ _|with_reducible exact su _|exact sp|with_reducible exact eP _ _ _ _|with_reducible exact bC _ _|with_reducible exact bO _ _|with_reducible exact aZ|with_reducible refine Zi A ?_|with_reducible refine Zf A ?_|refine YG A ?_|with_reducible refine And.intro ?_ ?_|with_reducible rfl)
  ·have:=d A
   cases this
  ·refine Zh (λ_=>cC _ _ A (Zh (λ_=>?_) λh=>zE)) λh=>by cases h
   repeat' (first|with_reducible exact hQ|with_reducible exact trivial|with_reducible refine cC _ _ A ?_|with_reducible exact nf _ _|with_reducible exact su _|exact sp|exact s|with_reducible exact eP _ _ _ _|with_reducible exact bC _ _|with_reducible exact bO _ _|with_reducible exact aZ|with_reducible refine Zi A ?_|with_reducible refine Zf A ?_|refine YG A ?_|with_reducible refine And.intro ?_ ?_|with_reducible rfl)
theorem V2{q:Query}{k:Nat}{F:Nat->ay}(n:Nat)(K:Nat->Nat->Int)(S:Nat->Nat->List UInt8)(i:Int)(c p:Int->Nat)(cE a:Nat)(x:Int)(hx:x=(k:Int))(b:c x=cE)(d:p x=a)(Q:Prop):
  kr [qj q q.ng,Oq q,FR,W4] [] 9 14004 25 (Rz q k F n K S i c p) (λ_=>RC q k F n K S i cE a) (λx=>x+1) Q x:=by
 have e:Int.ofNat k=(k:Int):=rfl
 rw[Ot,b,d]
 refine Zg (λh=>absurd h O) λ_=>?_
 repeat' (with_reducible first|exact trivial|exact nf _ _|exact su _|exact eP _ _ _ _|exact bC _ _|exact bO _ _|exact aZ|refine Zi A ?_|refine Zf A ?_|refine YG A ?_|refine And.intro ?_ ?_|rfl)
def u9(q:Query)(F:Nat->ay)(W:Nat->Int)(x:Nat):Nat:=aP (λf=>A9 q.ng (aj q (F f)) W&&jA q (F f)) x
def Dj(q:Query)(F:Nat->ay)(W:Nat->Int)(x:Nat):Nat:=aP (λf=>A9 q.ng (aj q (F f)) W&&gk q (F f)) x
theorem Ow(p:Nat->Bool)(b:Nat):aP p (b+1)=aP p b+(bif p b then 1 else 0):=by
 cases h:p b with
 |true=>exact iE h
 |false=>exact kO h
theorem Gr{q:Query}{x:ay}(hx:bB x=true)(h:jA q x=true):gk q x=true:=by
 have:=(jx hx).1.2.1
 unfold jA at h
 unfold gk
 simp only[bf,bn]at h⊢
 exact⟨h.1,O⟩
theorem UY{q:Query}{k:Nat}{F:Nat->ay}(n:Nat)(K:Nat->Nat->Int)(S:Nat->Nat->List UInt8)(i:Int)(a:Nat)(hi:i=(a:Int))(ha:a<n)(h:k<=400)(j:ct q=true)(e:∀f,f<k->bB (F f)=true):
  aE PP II false (aD II 9 14004) 25 (Rz q k F n K S i (λx=>u9 q F (K a) x.toNat) (λx=>Dj q F (K a) x.toNat) 0) (RC q k F n K S i (u9 q F (K a) k) (Dj q F (K a) k)):=by
 have key:=aE.of (ι:=Int) iw [qj q q.ng,Oq q,FR,W4] (bm PP II []) 1000 (c:=aD II 9 14004) (ir:=false) 25 (λx=> ∃b:Nat,x=(b:Int)/\b<=k) (λx=>Rz q k F n K S i (λx=>u9 q F (K a) x.toNat) (λx=>Dj q F (K a) x.toNat) x) (λ_=>RC q k F n K S i (u9 q F (K a) k) (Dj q F (K a) k)) (λx=>k-x.toNat) (λx=>x+1) 0 A ⟨0,rfl,Nat.zero_le k⟩ λx hx=>?_
 ·exact key
 obtain⟨b,rfl,l⟩:=hx
 rcases Nat.lt_or_eq_of_le l with d|d
 ·have g:((b:Int)+1).toNat=b+1:=by omega
  exact RD n K S i _ _ _ _ (b:Int) b a A d h hi ha j (e b d) (jV _ _) (jV _ _) (Gr (e b d)) (by show u9 q F (K a) ((b:Int)+1).toNat=_;rw[g];exact Ow _ b) (by show Dj q F (K a) ((b:Int)+1).toNat=_;rw[g];exact Ow _ b) _ ⟨⟨b+1,rfl,O⟩,(by show k-((b:Int)+1).toNat<k-(b:Int).toNat;omega),rfl⟩
 ·subst d
  exact V2 n K S i _ _ _ _ (b:Int) A A A _
theorem RE{q:Query}{k:Nat}{F:Nat->ay}(n:Nat)(K:Nat->Nat->Int)(S:Nat->Nat->List UInt8)(c p:Int->Nat)(cE d:Nat)(i:Int)(a:Nat)(hi:i=(a:Int))(ha:a<n)(hn:n<=400)(lp:aE PP II false (aD II 9 14004) 25 (Rz q k F n K S i c p 0) (RC q k F n K S i cE d))(c0:c 0=0)(p0:p 0=0)(j:cE<=400)(l:d<=400)
  (m:S a 0=bu cE) (o:S a 1=[49]) (r:S a 2=bu d) (s:S a 3=[49]) (Q:Prop) (hQ:Q):
  kr [tc,W4] [(14004,25,Rz q k F n K S i c p 0,RC q k F n K S i cE d)] 9 9004 25 (UL q k F n K S) (λ_=>UM) (λi=>i+1) Q i:=by
 have C:Int.ofNat n=(n:Int):=rfl
 have beq:∀a b:List UInt8,List.beq a a=true:=λa _=>beq_self_eq_true a
 have t:(decide (0<=i)&&decide (i<Int.ofNat n))=true:=by simp only[bf,bn];omega
 have u:aN .i64 (i+1)=true:=aq O O
 have g:∀c,mY c eu=true:=λc=>vo (S:=λ_=>[49]) λ_ _=>⟨jz,by rw[il];omega⟩
 have f1:=Bj cE
 have v:=Bj d
 rw[Ov,c0,p0,show Int.toNat i=a by omega,Ik,Ik]
 generalize e:List.beq (S a 1) (_::_)=z1
 generalize f:List.beq (S a 3) (_::_)=z3
 have w:z1=true:=e.symm.trans (by rw[o];rfl)
 have y:z3=true:=f.symm.trans (by rw[s];rfl)
 clear e f
 subst w y
 rw[m,r,t,u,g,g,xq,xq,ni,ni,kV j,kV l,beq (bu cE) [],beq (bu d) []]
 refine Zg (λ_=>⟨lp,?_⟩) λh=>absurd (O:i<Int.ofNat n) h
 have nt:∀{x:Prop},x->ah (!(true&&(true&&true))) False x:=λh=>h
 repeat' (with_reducible first|exact hQ|exact trivial|refine cC _ _ f1 ?_|refine cC _ _ v ?_|refine cC _ _ A ?_|refine nt ?_|exact nf _ _|exact su _|exact eP _ _ _ _|exact bC _ _|exact bO _ _|exact aZ|refine Zi A ?_|refine Zf A ?_|refine YG A ?_|refine And.intro ?_ ?_|rfl)
theorem V3{q:Query}{k:Nat}{F:Nat->ay}(n:Nat)(K:Nat->Nat->Int)(S:Nat->Nat->List UInt8)(c p:Int->Nat)(cE a:Nat)(i:Int)(hi:i=(n:Int))(Q:Prop):kr [tc,W4] [(14004,25,Rz q k F n K S i c p 0,RC q k F n K S i cE a)] 9 9004 25 (UL q k F n K S) (λ_=>UM) (λi=>i+1) Q i:=by
 have b:Int.ofNat n=(n:Int):=rfl
 rw[Ov]
 exact Zg (λh=>absurd h O) λ_=>⟨rfl,trivial⟩
theorem UZ{q:Query}{k:Nat}{F:Nat->ay}(n:Nat)(K:Nat->Nat->Int)(S:Nat->Nat->List UInt8)(hn:n<=400)(d:k<=400)(e:ct q=true)(g:∀f,f<k->bB (F f)=true)
  (hS:∀a,a<n->S a 0=bu (u9 q F (K a) k)/\S a 1=[49]/\S a 2=bu (Dj q F (K a) k)/\S a 3=[49]):aE PP II false (aD II 9 9004) 25 (UL q k F n K S 0) UM:=by
 have key:=aE.Vk (ι:=Int) iw [tc,W4] 1000 (λi=>[(14004,25,Rz q k F n K S i (λx=>u9 q F (K i.toNat) x.toNat) (λx=>Dj q F (K i.toNat) x.toNat) 0,RC q k F n K S i (u9 q F (K i.toNat) k) (Dj q F (K i.toNat) k))]) (c:=aD II 9 9004) (ir:=false) 25 (λi=> ∃a:Nat,i=(a:Int)/\a<=n) (λi=>UL q k F n K S i) (λ_=>UM) (λi=>n-i.toNat) (λi=>i+1) 0 A ⟨0,rfl,Nat.zero_le n⟩ λi hi=>?_
 ·exact key
 obtain⟨a,rfl,ha⟩:=hi
 have m:Int.ofNat n=(n:Int):=rfl
 rcases Nat.lt_or_eq_of_le ha with b|b
 ·obtain⟨s0,h,j,l⟩:=hS a b
  exact RE n K S _ _ _ _ (a:Int) a A b hn (UY n K S (a:Int) a A b d e g) A A (Nat.le_trans (jV _ _) d) (Nat.le_trans (jV _ _) d) s0 h j l _ ⟨⟨a+1,rfl,O⟩,(by show n-((a:Int)+1).toNat<n-(a:Int).toNat;omega),rfl⟩
 ·subst b
  exact V3 a K S _ _ _ _ (a:Int) A _
end Go.Sx
end
section
set_option maxRecDepth 100000
namespace Go.Sx
open Go
end Go.Sx
end
section
set_option maxRecDepth 100000
namespace Go.Sx
open Go
end Go.Sx
end
section
set_option maxRecDepth 100000
namespace Go.Sx
open Go Go.Sort Go.Shelf Go.Proofs
end Go.Sx
end
section
set_option maxRecDepth 100000
namespace Go.Sx
open Go Go.Sort Go.Shelf Go.Proofs
structure Full (e:Query) (b:Nat->ay) (gs:List bj) (i:Nat):Prop where
 list:∀c,c<gs.length->(List.range (aK gs c).m).map (λa=>((aK gs c).T a).toNat)=(List.range i).filter λf=>gk e (b f)&&decide (FA e (b f)=(aK gs c).key)
 all:∀f,f<i->gk e (b f)=true->∃c,c<gs.length/\(aK gs c).key=FA e (b f)
theorem uG(p:Nat->Bool)(i:Nat):(List.range (i+1)).filter p=(List.range i).filter p++if p i=true then [i]else []:=by
 rw[List.range_succ,List.filter_append]
 cases hp:p i<;>simp[hp]
theorem Dl(q:Query)(F:Nat->ay):∀i,Full q F (aV q F i) i
 |0=>⟨λj b=>absurd b (by simp[aV]),λf d=>absurd d (lZ _)⟩
 |i+1=>by
  obtain⟨n,o⟩:=Dl q F i
  have r:=tj q F i
  show Full q F (km q (aV q F i) i (F i)) (i+1)
  unfold km
  cases hm:gk q (F i)with
  |false=>
   refine⟨λj b=>?_,λf d g=>?_⟩
   ·rw[uG,if_neg (by rw[hm];simp),List.append_nil];exact n j b
   ·have:f≠i:=λe=>by rw[e,hm]at g;cases g
    exact o f O g
  |true=>
   simp only[cond_true]
   split
   ·rename_i j d
    obtain⟨b,k⟩:=lF d
    have k:(aK (aV q F i) j).key=FA q (F i):=k
    refine⟨λl hl=>?_,λf p g=>?_⟩
    ·rw[List.length_set]at hl
     rw[gg b,uG]
     by_cases h:l=j
     ·rw[if_pos h]
      have s:=n j b
      show(List.range ((aK (aV q F i) j).m+1)).map (λa=>(gV (aK (aV q F i) j).T (aK (aV q F i) j).m (i:Int) a).toNat)=(List.range i).filter (λf=>gk q (F f)&&decide (FA q (F f)=(aK (aV q F i) j).key))++if(gk q (F i)&&decide (FA q (F i)=(aK (aV q F i) j).key))=true then [i]else []
      rw[if_pos (by rw[hm,k];simp),<-s,List.range_succ,List.map_append]
      congr 1
      ·refine List.map_congr_left λa ha=>?_
       have:=List.mem_range.1 ha
       unfold gV
       rw[if_neg O]
      ·show [(gV _ _ _ _).toNat]=[i]
       unfold gV
       rw[if_pos A];rfl
     ·rw[if_neg h,n l hl,if_neg (λc=>?_),List.append_nil]
      rw[hm,Bool.true_and,bn]at c
      exact r.apart l j hl b h (c.symm.trans k.symm)
    ·have gH:∀l,l<(aV q F i).length->(aK ((aV q F i).set j {key:=(aK (aV q F i) j).key,W:=(aK (aV q F i) j).W,m:=(aK (aV q F i) j).m+1,L:=gV (aK (aV q F i) j).L (aK (aV q F i) j).m (kR q (F i)),G:=gV (aK (aV q F i) j).G (aK (aV q F i) j).m (lJ q (F i)),C:=uj (aK (aV q F i) j).C (aK (aV q F i) j).m (Br q (F i)),T:=gV (aK (aV q F i) j).T (aK (aV q F i) j).m (i:Int)}) l).key=(aK (aV q F i) l).key:=λl hl=>by
      rw[gg b]
      by_cases h:l=j
      ·rw[if_pos h,h]
      ·rw[if_neg h]
     by_cases e:f=i
     ·exact⟨j,by rw[List.length_set];exact b,by rw[gH j b,e];exact k⟩
     ·obtain⟨l,l1,l2⟩:=o f O g
      exact⟨l,by rw[List.length_set];exact l1,by rw[gH l l1];exact l2⟩
   ·rename_i d
    have no:=xc d
    refine⟨λl hl=>?_,λf p g=>?_⟩
    ·rw[gh,uG]
     by_cases h:l=(aV q F i).length
     ·rw[if_pos h]
      show(List.range 1).map (λ_=>(i:Int).toNat)=(List.range i).filter (λf=>gk q (F f)&&decide (FA q (F f)=FA q (F i)))++if(gk q (F i)&&decide (FA q (F i)=FA q (F i)))=true then [i]else []
      rw[if_pos (by rw[hm];simp),List.filter_eq_nil_iff.2 λf d c=>?_]
      ·rfl
      ·rw[bf,bn]at c
       obtain⟨l,l1,l2⟩:=o f (List.mem_range.1 d) c.1
       exact no l l1 (l2.trans c.2)
     ·have hl:l<(aV q F i).length:=by simp at hl;omega
      rw[if_neg h,n l hl,if_neg (λc=>?_),List.append_nil]
      rw[hm,Bool.true_and,bn]at c
      exact no l hl c.symm
    ·by_cases e:f=i
     ·refine⟨(aV q F i).length,zA,?_⟩
      rw[gh,if_pos A,e]
     ·obtain⟨l,l1,l2⟩:=o f O g
      refine⟨l,by simp;omega,?_⟩
      rw[gh,if_neg O];exact l2
def WA(q:Query)(W:Nat->Int)(x:ay):Bool:=A9 q.ng (aj q x) W
theorem V4{q:Query}{F:Nat->ay}{i j:Nat}(d:q.ng<=3)(b:j<(aV q F i).length)(x:ay):decide (FA q x=(aK (aV q F i) j).key)=WA q (aK (aV q F i) j).W x:=by
 rw[(tj q F i).key j b]
 generalize (aK (aV q F i) j).W=W
 have one:∀a,((bif Nat.blt a q.ng then aj q x a else 0)=bif Nat.blt a q.ng then W a else 0)↔(a<q.ng->aj q x a=W a):=λa=>by
  by_cases h:a<q.ng
  ·rw[eV h,cond_true,cond_true];exact⟨λe _=>e,λe=>e h⟩
  ·rw[js h];exact⟨λ_ c=>absurd c h,λ_=>rfl⟩
 refine Bool.eq_iff_iff.2 ?_
 unfold WA A9 FA
 rw[bn,List.all_eq_true]
 simp only[List.cons.injEq,and_true,one,List.mem_range,bn]
 refine⟨λ⟨a0,a1,a2⟩ a ha=>?_,λh=>⟨h 0,h 1,h 2⟩⟩
 have:a=0∨a=1∨a=2:=O
 rcases this with rfl|rfl|rfl
 ·exact a0 ha
 ·exact a1 ha
 ·exact a2 ha
end Go.Sx
end
section
set_option maxRecDepth 1000000
namespace Go.Sx
open Go Go.Sort Go.Shelf Go.Proofs
theorem RF{q:Query}{k:Nat}{F:Nat->ay}{j:Nat}(d:ct q=true)(e:cX k F=true)(c:j<(aV q F k).length):
  aP (aK (aV q F k) j).C (aK (aV q F k) j).m=u9 q F (aK (aV q F k) j).W k/\(aK (aV q F k) j).m=Dj q F (aK (aV q F k) j).W k:=by
 have g:=jR e
 have h:=yD q F k j c
 have fl:=(Dl q F k).list j c
 have i:=λx=>V4 (x:=x) (Xs d) c
 simp only[i]at fl
 generalize aK (aV q F k) j=b at*
 have l:b.m=Dj q F b.W k:=by
  have:=congrArg List.length fl
  rw[List.length_map,List.length_range]at this
  rw[this]
  unfold Dj aP
  refine congrArg List.length (List.filter_congr λf _=>?_)
  exact Bool.and_comm _ _
 refine⟨?_,l⟩
 have n:aP b.C b.m=(((List.range b.m).map λa=>(b.T a).toNat).filter λf=>Br q (F f)).length:=by
  rw[List.filter_map,List.length_map]
  unfold aP
  refine congrArg List.length (List.filter_congr λa ha=>?_)
  obtain⟨f,f1,o,t,u,f5,f6⟩:=h a (List.mem_range.1 ha)
  show b.C a=Br q (F (b.T a).toNat)
  rw[f6,o];rfl
 rw[n,fl,List.filter_filter]
 unfold u9 aP
 refine congrArg List.length (List.filter_congr λf p=>?_)
 have r:=Gr (q:=q) (g f (List.mem_range.1 p))
 show(Br q (F f)&&(gk q (F f)&&WA q b.W (F f)))=(A9 q.ng (aj q (F f)) b.W&&jA q (F f))
 unfold Br WA
 cases s:jA q (F f)with
 |false=>simp
 |true=>rw[r s];simp
theorem RG{q:Query}{k:Nat}{F:Nat->ay}(b:ct (gW q)=true)(c:cX k F=true)(n:Nat)(X:Nat->Nat->Int)(m:Nat)(C:Nat->Nat->Int)(agg g top:Int)
  (h:aI 3 m (au C)=true) (j:aN .i64 g=true) (hX:aI 6 n (fm X)=true)
  (l:cJ 0 (min m 3) (bG (au C)) g 0=gW q) (o:mZ n (bG (fm X))=k) (p:oW n (bG (fm X))=F):
  jE [S7,OE (gW q),Hz k F,Vo (gW q) (r8 (gW q) k F) (FM (gW q) k F) (oU (gW q) k F),Vh,Wt q (r8 (gW q) k F) (FM (gW q) k F) (oU (gW q) k F),Vg q.ng] (mG PP II [(9004,25,UL (gW q) k F (r8 (gW q) k F) (FM (gW q) k F) (oU (gW q) k F) 0,UM)]) 1000 9 [.agg [.int .i64 agg,.ab m 3 (au C),.int .i64 g,.int .i64 top],.ab n 6 (fm X)] Hm (λa H=>B (Nat.ble 14 H.n) (a= .bool true)) (λ_ _=>False):=by
 have e:=jS c
 have w:q.ng<=3:=Xs (q:=gW q) b
 have r:=jR c
 have lp:aE PP II false (aD II 9 9004) 25 (UL (gW q) k F (r8 (gW q) k F) (FM (gW q) k F) (oU (gW q) k F) 0) UM :=
  UZ _ _ _ (Nat.le_trans (RM _ _ _) e) e b r λa ha=>by
   have s:=u4 (gW q).ng (aV (gW q) F k).length (fj (gW q).ng (aV (gW q) F k)) (show a<(aV (gW q) F k).length from ha)
   obtain⟨t1,t2⟩:=RF b c s
   have t:oU (gW q) k F=uq (og (gW q) (aV (gW q) F k)):=Ke A _
   rw[t]
   exact⟨congrArg bu t1,rfl,congrArg bu t2,rfl⟩
 have d:Bq (gW q) (r8 (gW q) k F) (FM (gW q) k F) (oU (gW q) k F) k (λi=>aF (F i))=true:=zO.2 ⟨rfl,rfl,rfl⟩
 have is:qT (gW q) [.ab q.nw 3 (au q.C),.ab q.ng 1 (aR q.G),.int .i64 1,.int .i64 q.fl,.str q.nu,.str q.de,.int .i64 0]=true:=jv (gW q)
 have u:=RM (gW q) k F
 generalize r8 (gW q) k F=v at lp d u⊢
 generalize FM (gW q) k F=x at lp d⊢
 generalize oU (gW q) k F=y at lp d⊢
 rw[UN,show(bP λi=>aF (F i))=F from rfl,show qP (eD F)=F from rfl,Bi,gr,c,d,is,b,h,j,hX,J3 l,OG o p,kV e,y0,ni,kV (O:v<=1000000),kV (O:q.ng<=1000000)]
 have f:AV.bool true=AV.bool true:=rfl
 refine cC _ _ (Bl A A A A A A A A) (cC _ _ A (cC _ _ A (cC _ _ A (cC _ _ A (cC _ _ zA (cC _ _ (Bl A A A A A A A A) (cC _ _ A (cC _ _ zA ⟨lp,?_⟩))))))))
 repeat' (with_reducible first|exact f|exact trivial|refine cC _ _ A ?_|exact nf _ _|exact eP _ _ _ _|exact bC _ _|exact bO _ _|exact aZ|refine Zi A ?_|refine Zf A ?_|refine YG A ?_|refine And.intro ?_ ?_|rfl)
theorem U5(n:Nat)(X:Nat->Nat->Int)(g:Int):cJ 0 n X g 0=gW (cJ 0 n X g 0):=by
 have e:(cJ 0 n X g 0).top=0:=by
  show(match decide (Int.ofNat (bM (av g 64) 6).length>0)with|true=>av 0 5|false=>0)=0
  split<;>rfl
 exact congrArg (λt=>({gW (cJ 0 n X g 0)with top:=t}:Query)) e
theorem U6{n:Nat}{X:Nat->Nat->Int}{m:Nat}{C:Nat->Nat->Int}{agg g top:Int}(d:aI 3 m (au C)=true)(e:aN .i64 g=true)(hX:aI 6 n (fm X)=true):
  af PP II 9 [.agg [.int .i64 agg,.ab m 3 (au C),.int .i64 g,.int .i64 top],.ab n 6 (fm X)] Hm (.ret (.bool true) (AH.blank 14)):=by
 have f:=JW n (bG (fm X))
 have b:=U5 (min m 3) (bG (au C)) g
 have h:=RG (q:=cJ 0 (min m 3) (bG (au C)) g 0) (by rw[<-b];unfold ct;rw[J8,J9,OP];rfl) f n X m C agg g top d e hX b A A
 obtain⟨o,c,i⟩:=fJ iw _ (bm PP II _) 1000 9 _ Hm _ _ h
 cases o with
 |ret a H1=>
  obtain⟨j,k1⟩:=Zk c
  have k1:a= .bool true:=k1
  subst k1
  exact i.le (ky.of [] (im.of A A A A j (gS.2 λl _=>trivial)) A)
 |qt a H1=>exact c.elim
end Go.Sx
end
section
set_option maxRecDepth 1000000
namespace Go.Sx
open Go Go.ChangeShapes Go.WideShapes Go.Deep
section
variable {H:Type} {enc:TypeId×Value->H} {P:Program} {W:World} {sp:Nat->Bool} {held:Bool}
def kU(W a:World):Prop:=a.os=W.os/\a.output=W.output/\∀i,i<W.heap.size->a.heap[i]? =W.heap[i]?
theorem kU.same{a:World}(h:kU W a){p:MemPlace}(c:p.block<W.heap.size):W.sameAt a p:=by
 cases p with
 |cell b off=>show a.cell? _=W.cell? _;unfold World.cell?;rw[h.2.2 b c]
 |map b=>exact h.2.2 b c
theorem kU.frozen{a:World}(h:kU W a){b off:Nat}(c:b<W.heap.size):a.frozen? ⟨b,off,none⟩=W.frozen? ⟨b,off,none⟩:=by
 unfold World.frozen?
 rw[h.2.2 b c]
end
end Go.Sx
end
