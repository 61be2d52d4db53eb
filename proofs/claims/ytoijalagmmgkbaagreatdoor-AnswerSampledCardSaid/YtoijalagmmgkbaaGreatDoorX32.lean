/- Lemmas, part 32. -/
import Derived.Test.YtoijalagmmgkbaaGreatDoorX31
set_option linter.all false
set_option linter.defProp false
section
set_option maxRecDepth 1000000
namespace Go.Sx
open Go Go.Proofs Go.Sort Go.Shelf Go.RowKit Go.Lib
theorem rY{g n R}(h:pK g n R=true){i}(hi:i<n):VX g (R i)=true/\∀j,j<n->i≠j->A7 g (gw (R i)) (gw (R j))=false:=by
 have:=List.all_eq_true.1 h i (List.mem_range.2 hi)
 simp only[bf]at this
 refine⟨this.1,λj a b=>?_⟩
 have k:=List.all_eq_true.1 this.2 j (List.mem_range.2 a)
 simp_all
theorem JN{g a}(h:VX g a=true):a=[xf a]:=by
 unfold VX at h
 split at h
 ·rfl
 ·cases h
theorem FI{l:Nat}{H:AH}:af PP II 93 [.own l 0 1,.fn 94 [] []] H (.ret (.qP []) H):=by
 intro c ρ w vs hG a d
 obtain⟨u,us,rfl,e1,f,g,rfl,h,rfl⟩:=a
 have hx:∃p cap,u= .slice p 0 cap:=by
  rcases e1 with⟨_,rfl⟩|⟨b,N,c,_,rfl,_⟩
  ·exact⟨_,_,rfl⟩
  ·exact⟨_,_,rfl⟩
 obtain⟨p,cap,rfl⟩:=hx
 have L:=Tryz.yR
 have:=AnyF.slices_SortFunc_none (P:=Tryz.prog) (ρ:=Tryz.qf) {L with} p cap f w
 change Calls Tryz.prog 93 _ _ _ at this
 refine .inl ⟨by rfl,this.mono ?_⟩
 rintro e w' ⟨rfl,rfl⟩
 exact⟨ρ,Ext.refl ρ,d,[],rfl,rfl⟩
theorem Dd(g n)(R):(lW g n R).length=n:=by unfold lW;simp
theorem u4(g n)(R){i}(hi:i<n):(lW g n R).getD i 0<n:=by
 have hl:=Dd g n R
 rw[List.getD_eq_getElem?_getD,mo O]
 have:(lW g n R)[i]'O∈lW g n R:=List.getElem_mem _
 unfold lW at this
 rw[List.mem_mergeSort]at this
 exact List.mem_range.1 this
set_option maxHeartbeats 1000000 in
theorem FJ{g n l:Nat}{R:Nat->List AV}{H:AH}(hl:H.get l= .rows n 1 R (.ty 89))(h0:0<n)(hg:g<=9)(hn:n<4611686018427387904)(I:pK g n R=true):
  af PP II 93 [.own l n 1,.fn 94 [] []] H (.ret (.qP []) (H.set l (.rows n 1 (lX g n R) (.ty 89)))):=by
 intro c ρ w vs hG hv hr
 obtain⟨u,us,rfl,e1,u2,ak,rfl,e2,rfl⟩:=hv
 obtain⟨z1,z2,rfl,K,L⟩:=e2
 cases K
 cases L
 rcases e1 with⟨e,_⟩|⟨b,N,cap,hb,rfl,ap,a6⟩
 ·omega
 have t:∀i,i<n->R i=[xf (R i)]:=λi hi=>JN (rY I hi).1
 have P:Rel c ρ (H.set l (.rows n 1 (λi=>[xf (R i)]) (.ty 89))) w:=hr.Uy hl t
 obtain⟨Q,S,g1,g2,g3,g4⟩:=P.GZ (l:=l) (n:=n) (R:=λi=>[xf (R i)]) (AH.get_set_same _ _ _) hb λ_=>rfl
 haveI:Inhabited (Fin n):=⟨⟨0,h0⟩⟩
 have hx:∀x:Fin n,∃v,S[x.1]? =some v:=λx=>⟨S[x.1]'O,mo _⟩
 obtain⟨enc,o⟩:=Classical.axiomOfChoice hx
 have B:∀x,(enc x).oneCell'=true:=λx=>g3 _ (List.mem_of_getElem? (o x))
 have j:∀x:Fin n,aU ρ [xf (R x)] [enc x]:=λx=>by
  obtain⟨v,k1,k2⟩:=g2 x x.2
  have:=o x
  rw[k1]at this
  cases this
  exact k2
 have hd:((List.finRange n).toArray).toList.map enc=S:=by
  apply List.ext_getElem?
  intro i
  by_cases hi:i<n
  ·have:=o ⟨i,hi⟩
   rw[this]
   simp[hi]
  ·rw[List.getElem?_eq_none zJ,List.getElem?_eq_none O]
 obtain⟨hH,p⟩:=g4 enc (List.finRange n).toArray hd
 have C:(List.finRange n).toArray.size=n:=zA
 have hO:SWO (ltOf λx y:Fin n=>cb (gw (R x)) (gw (R y)) g 0):=
  {irrefl:=λx=>nZ (Db _ g 0)
   trans:=λx y d E F=>bW (xe _ _ _ g 0 (pT E) (pT F))
   ntrans:=λx y d E F=>nZ (um _ _ _ g 0 (of_decide_eq_false E) (of_decide_eq_false F))}
 have hT:∀x y:Fin n,(ltOf λx y:Fin n=>cb (gw (R x)) (gw (R y)) g 0) x y=false->(ltOf λx y:Fin n=>cb (gw (R x)) (gw (R y)) g 0) y x=false->x=y:=λx y E F=>Classical.byContradiction λT=>by
  have h3:=(rY I x.2).2 y y.2 (λe=>T (Fin.ext e))
  have V:=Dc _ _ g 0 (of_decide_eq_false E) (of_decide_eq_false F)
  have h4:A7 g (gw (R x)) (gw (R y))=true:=List.all_eq_true.2 λk hk=>by
   have:=V k (List.mem_range.1 hk)
   rw[Nat.zero_add]at this
   rw[this]
   exact beq_self_eq_true _
  rw[h3]at h4
  cases h4
 have G:CmpReads Tryz.prog 94 #[] enc (λx y:Fin n=>cb (gw (R x)) (gw (R y)) g 0) b 0 (List.finRange n).toArray.size w:=λm os W X x y=>by
  rw[C]at X
  have hW:=p W (λi=>[xf (R (if h:i<n then(W[i]'O).1 else 0))]) m os X B (λ_=>rfl) λi hi=>⟨enc (W[i]'O),by simp[X,hi],by simp only[hi,dif_pos];exact j _⟩
  obtain⟨p1,q1,a1,Y,k1,k2,k3⟩:=y5 hW (rY I x.2).1 (v:=enc x) (by rw[t x x.2];exact j x)
  obtain⟨p2,q2,a2,Z,m1,m2,m3⟩:=y5 hW (rY I y.2).1 (v:=enc y) (by rw[t y y.2];exact j y)
  rw[k1,m1]
  refine FH p1 q1 p2 q2 g Y Z a1 a2 _ _ k2 m2 λW' hq=>?_
  obtain⟨q,rfl⟩:=hq
  by_cases ad:g=0
  ·subst ad
   exact uF a1 a2 Y Z _
  ·obtain⟨b1,o1,rfl,r1⟩:=k3 O
   obtain⟨b2,o2,rfl,r2⟩:=m3 O
   exact FG b1 o1 Y b2 o2 Z g _ _ _ hg r1 r2
 have eg:∀args w,(callFunc 94 args).run Tryz.prog w= .ok (.enter 94 args) w:=enters_of Tryz.func94 U A
 have:=Any.slices_SortFunc_total Tryz.yR enc B (λx y:Fin n=>cb (gw (R x)) (gw (R y)) g 0) hO 94 #[] b 0 cap (List.finRange n).toArray w eg G.lays hH Q (by rw[C];exact hn) hT
 change Calls Tryz.prog 93 _ _ _ at this
 rw[C]at this
 refine .inl ⟨enters_of Tryz.func93 U A _ w,this.mono ?_⟩
 rintro e w' ⟨rfl,k,os,rfl⟩
 have D:((List.finRange n).mergeSort λx y=>!(ltOf λx y:Fin n=>cb (gw (R x)) (gw (R y)) g 0) y x).map Fin.val=lW g n R:=by
  refine(List.map_mergeSort (f:=Fin.val) (r:=λx y:Fin n=>!(ltOf λx y:Fin n=>cb (gw (R x)) (gw (R y)) g 0) y x) (s:=λx y=>!decide (cb (gw (R y)) (gw (R x)) g 0<0)) (l:=List.finRange n) (λa _ b _=>rfl)).trans ?_
  unfold lW
  congr 1
  apply List.ext_getElem?
  intro i
  by_cases hi:i<n
  ·simp[hi]
  ·rw[List.getElem?_eq_none zJ,List.getElem?_eq_none zJ]
 have ag:=p ((List.finRange n).mergeSort λx y=>!(ltOf λx y:Fin n=>cb (gw (R x)) (gw (R y)) g 0) y x).toArray (lX g n R) k os (by simp[List.length_mergeSort]) B (λ_=>rfl) λi hi=>by
  have ai:((List.finRange n).mergeSort λx y=>!(ltOf λx y:Fin n=>cb (gw (R x)) (gw (R y)) g 0) y x).length=n:=by rw[List.length_mergeSort];simp
  have e1:=mo (l:=(List.finRange n).mergeSort λx y=>!(ltOf λx y:Fin n=>cb (gw (R x)) (gw (R y)) g 0) y x) (i:=i) O
  refine⟨enc (((List.finRange n).mergeSort λx y=>!(ltOf λx y:Fin n=>cb (gw (R x)) (gw (R y)) g 0) y x)[i]'O),?_,?_⟩
  ·rw[List.getElem?_map]
   show Option.map enc (List.toArray _).toList[i]? =_
   rw[List.toList_toArray,e1];rfl
  ·unfold lX
   have:(lW g n R).getD i 0=(((List.finRange n).mergeSort λx y=>!(ltOf λx y:Fin n=>cb (gw (R x)) (gw (R y)) g 0) y x)[i]'O).1:=by
    rw[<-D,List.getD_eq_getElem?_getD,List.getElem?_map,e1];rfl
   rw[this]
   exact j _
 refine⟨ρ,Ext.refl ρ,ag.congr A λi=>?_,[],rfl,rfl⟩
 by_cases J:i=l
 ·subst J;rw[AH.get_set_same,AH.get_set_same]
 ·rw[AH.pr _ _ (λd=>J d.symm),AH.pr _ _ (λd=>J d.symm),AH.pr _ _ (λd=>J d.symm)]
noncomputable def N5(g:Nat):aC PP II where
 f:=93
 spec X args H a _:=match args with
  |[.own l n 1,.fn 94 [] []]=>match H.get l with
   | .rows m 1 R (.ty 89)=>X.bq (Nat.beq n m&&Nat.ble g 9&&Nat.blt n 4611686018427387904&&pK g n R) (a (.qP []) (H.set l (.rows n 1 (lX g n R) (.ty 89))))
   |_=>X.fail
  |_=>X.fail
 ok X sem hX args H a kp h:=by
  split at h
  ·rename_i l n
   split at h
   ·rename_i m R hl
    obtain⟨b,d⟩:=hX.bq _ _ h
    simp only[bf,Nat.blt_eq]at b
    obtain⟨⟨⟨a1,a2⟩,e⟩,i⟩:=b
    cases dE a1
    refine⟨.ret _ _,d,?_⟩
    by_cases j:n=0
    ·subst j
     intro c ρ w vs hG k o
     exact FI c ρ w vs hG k (o.Nv hl)
    ·exact FJ hl O ZD e i
   ·exact zR
  ·exact zR
end Go.Sx
end
section
set_option maxRecDepth 1000000
namespace Go.Sx
open Go
theorem JO(q)(k)(F)(gs)(Q):(kq [N5 q.ng] [(4001,16,N3 q k F,.one (.x 0 (JM q gs)))] 40 [.agg (aY q),vo k F] Q)=(eu PP II false (aD II 40 4001) 16 (N3 q k F) (GE.one (aQ.x 0 (JM q gs)))/\zyN q.nw (zyR q.nw (au q.C) (zyN q.ng (zyR q.ng (aR q.G) (zyI q.a (zyI q.fl (zyB q.nu (zyB q.de (zyI q.top (zyB [48] (zyB [49] (zyR 5 aA (zyN k ((an k (λi=>eD (F i)) λi=>eD (F i))/\zyI (Int.ofNat k) (aa (Nat.beq (List.length gs) (List.length gs)&&Nat.ble q.ng 9&&Nat.blt (List.length gs) 4611686018427387904&&pK q.ng (List.length gs) (fj q.ng gs)) (aa ((List.all (List.range (List.length gs)) λi=>bt.free (lX q.ng (List.length gs) (fj q.ng gs) i))&&decide (List.length gs<=List.length gs)) (Q (AV.ab (List.length gs) 1 (lX q.ng (List.length gs) (fj q.ng gs)))))))))))))))))))):=U
structure xg (b:Query) (gs:List bj):Prop where
 key:∀a,a<gs.length->(aK gs a).key=[bif Nat.blt 0 b.ng then(aK gs a).W 0 else 0,bif Nat.blt 1 b.ng then(aK gs a).W 1 else 0,bif Nat.blt 2 b.ng then(aK gs a).W 2 else 0]
 apart:∀i a,i<gs.length->a<gs.length->i≠a->(aK gs i).key≠(aK gs a).key
theorem tj(q)(F):∀i,xg q (aV q F i)
 |0=>⟨λj c=>absurd c (by simp[aV]),λi j hi=>absurd hi (by simp[aV])⟩
 |i+1=>by
  obtain⟨f,g⟩:=tj q F i
  show xg q (km q (aV q F i) i (F i))
  unfold km
  cases gk q (F i)with
  |false=>exact⟨f,g⟩
  |true=>
   simp only[cond_true]
   split
   ·rename_i j c
    obtain⟨c,_⟩:=lF c
    refine⟨λl hl=>?_,λa b ha d e=>?_⟩
    ·rw[List.length_set]at hl
     rw[gg c]
     grind
    ·rw[List.length_set]at ha d
     rw[gg c,gg c]
     grind
   ·rename_i k
    have no:=xc k
    refine⟨λl hl=>?_,λa b ha d e=>?_⟩
    ·rw[gh]
     by_cases h:l=(aV q F i).length
     ·rw[if_pos h];rfl
     grind
    ·simp only[List.length_append,List.length_cons,List.length_nil]at ha d
     rw[gh,gh]
     grind
theorem kc(n)(W):bA n (ae W)=true:=List.all_eq_true.2 λ_ _=>rfl
theorem N6{q gs}(h:xg q gs)(hq:q.ng<=3):pK q.ng gs.length (fj q.ng gs)=true:=by
 refine List.all_eq_true.2 λi hi=>?_
 have hi:=List.mem_range.1 hi
 rw[bf]
 refine⟨?_,List.all_eq_true.2 λj c=>?_⟩
 ·show(Nat.beq q.ng q.ng&&bA q.ng (ae _))=true
  rw[ni,kc];rfl
 ·have c:=List.mem_range.1 c
  by_cases e:i=j
  simp_all
  ·rw[qK e,Bool.false_or,Bool.not_eq_true']
   cases he:A7 q.ng (gw (fj q.ng gs i)) (gw (fj q.ng gs j))with
   |false=>rfl
   |true=>
    refine absurd ?_ (h.apart i j hi c e)
    have a:∀k,k<q.ng->(aK gs i).W k=(aK gs j).W k:=λk d=>by
     have:=List.all_eq_true.1 he k (List.mem_range.2 d)
     have:=eq_of_beq this
     exact this
    rw[h.key i hi,h.key j c]
    have b:∀k,(bif Nat.blt k q.ng then(aK gs i).W k else 0)=bif Nat.blt k q.ng then(aK gs j).W k else 0:=λk=>by
     cases f:Nat.blt k q.ng with
     |true=>simp_all
     |false=>rfl
    rw[b 0,b 1,b 2]
def De(q:Query)(gs:List bj):AV:=.ab gs.length 1 (lX q.ng gs.length (fj q.ng gs))
theorem FK(g n)(gs):((List.range n).all λi=>bt.free (lX g n (fj g gs) i))=true:=List.all_eq_true.2 λi _=>rfl
theorem qM(g n)(gs):an n (lX g n (fj g gs)) (lX g n (fj g gs)):=λi _ σ=>⟨⟨⟨⟨rfl,rfl,λj _=>jw _ _ j⟩,⟨rfl,rfl,λj _=>kS _ _ _ _ j⟩,⟨rfl,rfl,λj _=>jw _ _ j⟩,trivial⟩,rfl⟩,trivial⟩
theorem JP{q k F}(hq:ct q=true)(c:k<=1000000)(d:∀i,i<k->bB (F i)=true):af PP II 40 [.agg (aY q),vo k F] HR (.ret (De q (aV q F k)) HR):=by
 refine qh (ks:=[N5 q.ng]) (T:=[(4001,16,N3 q k F,.one (.x 0 (JM q (aV q F k))))]) ?_
 rw[JO]
 have a:=Xs hq
 have b:=(lG q F k).len
 have fl:=gU k F
 have a1:(Nat.beq (aV q F k).length (aV q F k).length&&Nat.ble q.ng 9&&Nat.blt (aV q F k).length 4611686018427387904&&pK q.ng (aV q F k).length (fj q.ng (aV q F k)))=true:=by
  rw[ni,kV O,eV O,N6 (tj q F k) a];rfl
 have a2:=FK q.ng (aV q F k).length (aV q F k)
 refine⟨Da q k F c hq d,?_⟩
 repeat' (first|with_reducible refine Zf A ?_|with_reducible refine YG A ?_|with_reducible refine Zi A ?_|with_reducible refine And.intro ?_ ?_|with_reducible exact bC _ _|with_reducible exact bO _ _|with_reducible exact aZ|with_reducible exact fl|with_reducible exact trivial|with_reducible refine cC _ _ a1 ?_|exact cC _ _ (by rw[a2];simp) (λσ=>⟨rfl,rfl,λi hi=>qM _ _ _ i hi σ⟩))
def Ik(k:Nat)(f:Nat->List AV):Bool:=fh k f&&(List.range k).all λi=>bB (bP f i)
noncomputable def rZ(q:Query):aC PP II:=aC.s9 40
 (λX args b=>match args with
  |[.agg cs,.ab k 10 f]=>X.bq (qT q cs&&ct q&&Nat.ble k 1000000&&Ik k f) (b (De q (aV q (bP f) k)))
  |_=>X.fail)
 λX sem hX args b h=>by
  split at h
  ·rename_i cs k f
   obtain⟨c,d⟩:=hX.bq _ _ h
   simp only[bf]at c
   obtain⟨⟨⟨a1,a2⟩,e⟩,a⟩:=c
   obtain⟨l1,l2⟩:=mi a1
   unfold Ik at a
   simp only[bf]at a
   refine⟨_,d,λ_=>rfl,λσ=>?_,af.dA (JP a2 ZD ZD) l1 (fq a.1)⟩
   show [AV.bD σ (.agg _),_]=_
   rw[l2];rfl
  ·exact zR
end Go.Sx
end
section
set_option maxRecDepth 1000000
namespace Go.Sx
open Go
noncomputable def r6(q:Query):aC PP II:=aC.s9 41
 (λX args a=>match args with
  |[.agg cs,.ab k 3 r]=>X.bq (qT q cs&&ct q&&On k r&&bX k (ka r)&&bX k (iF r)) (a (CW q k (ka r) (iF r) (iG r)))
  |_=>X.fail)
 λX sem hX args a h=>by
  split at h
  ·obtain⟨b,c⟩:=hX.bq _ _ h
   simp only[bf]at b
   obtain⟨⟨⟨⟨a1,a2⟩,d⟩,e⟩,f⟩:=b
   obtain⟨r1,g,i⟩:=FX a2
   obtain⟨l1,l2⟩:=mi a1
   refine⟨_,c,λ_=>rfl,λσ=>?_,af.dA (Jt r1 g i e f) l1 (Rf d)⟩
   show [AV.bD σ (.agg _),_]=_
   rw[l2];rfl
  ·exact zR
theorem j4.two{x a a' H H'}(h:j4 a H a' H')(hx:x.free=true):sM [x,a] H [x,a'] H':=⟨h.1,λc ρ w vs f i=>by
 obtain⟨u,us,rfl,e1,b,j,rfl,l,rfl⟩:=i
 obtain⟨ρ',d,m,o⟩:=h.2 c ρ w b f l
 exact⟨ρ',d,m,u,[b],rfl,VR.ext d.bare _ _ (VR.free _ _ hx e1),b,[],rfl,o,rfl⟩⟩
noncomputable def Hg:aC PP II where
 f:=42
 spec X args H a kp:=match args with
  |[.agg cs,.own l m 9]=>match H.get l with
   | .rows n 9 r (.ty 44)=>X.bq (Nat.beq n m&&bt.free cs&&(List.range n).all λi=>bt.free (r i)) (WZ.spec X [.agg cs,.ab m 9 r] (H.set l (.rows n 9 r .ro)) a kp)
   |_=>X.fail
  |_=>X.fail
 ok X sem hX args H a kp h:=by
  split at h
  ·rename_i cs l m
   split at h
   ·rename_i n r hl
    obtain⟨b,c⟩:=hX.bq _ _ h
    simp only[bf]at b
    obtain⟨⟨a1,a2⟩,e⟩:=b
    cases dE a1
    obtain⟨o,k1,k2⟩:=WZ.ok X sem hX _ _ _ _ c
    refine⟨o,k1,af.nI (j4.two ?_ zI) k2⟩
    have e1:l6 H l=some (H.set l (.rows m 9 r .ro)):=by unfold l6;rw[hl]
    have:qC RI.jY (0+1) (.own l m 9) H (λa' H'=>a'= .ab m 9 r/\H'=H.set l (.rows m 9 r .ro)):=by
     rw[A6 RI.jY _ e1 (AH.get_set_same _ _ _)]
     exact Ze Y ⟨rfl,rfl⟩
    obtain⟨a',H',⟨rfl,rfl⟩,d⟩:=lm (sem:=id) RI.dJ _ _ H _ this
    exact d
   ·exact zR
  ·exact zR
theorem N7(q)(Q):(kb [lQ] [] 38 [.agg (aY q)] Q)=(aa (aI 3 q.nw (au q.C)&&aI 1 q.ng (aR q.G)) (aa (Hl {nw:=q.nw,C:=bG (au q.C),ng:=q.ng,G:=λj=>q.G j,a:=q.a,fl:=q.fl,nu:=q.nu,de:=q.de,top:=q.top}) (ah (decide (q.fl=0)) (Q (AV.bool true)) (ah (decide (q.fl=7)) (Q (AV.bool true)) (ah (decide (q.fl=8)) (Q (AV.bool true)) (Q (AV.bool true))))))):=U
theorem N8{q}(h:ct q=true):af PP II 38 [.agg (aY q)] (AH.blank 12) (.ret (.bool true) (AH.blank 12)):=by
 obtain⟨a,b,c⟩:=FX h
 refine bY (ks:=[lQ]) (T:=[]) (λ_=>rfl) ?_
 rw[N7]
 refine cC _ _ (by rw[a,b];rfl) (cC _ _ zI ?_)
 exact Zh (λ_=>rfl) λ_=>Zh (λ_=>rfl) λ_=>Zh (λ_=>rfl) λ_=>rfl
noncomputable def u5(q:Query):aC PP II:=aC.pure 38
 (λX args b=>match args with
  |[.agg cs]=>X.bq (qT q cs&&ct q) (b (.bool true))
  |_=>X.fail)
 λX sem hX args b h=>by
  split at h
  ·obtain⟨a,c⟩:=hX.bq _ _ h
   rw[bf]at a
   exact⟨_,c,λ_=>rfl,λσ=>by show [AV.bD σ (.agg _)]=_;rw[(mi a.1).2],(N8 a.2).dq ⟨(mi a.1).1,trivial⟩⟩
  ·exact zR
def qN(g:Nat)(X:Nat->bj)(i:Nat):List AV:=[.fc (qL g (X i)) 0]
def og(q:Query)(gs:List bj)(i:Nat):bj:=aK gs ((lW q.ng gs.length (fj q.ng gs)).getD i 0)
def dK(X:Nat->bj)(i k:Nat):Int:=(X i).W k
def jC(q:Query)(X:Nat->bj)(i k:Nat):List UInt8:=match k with
 |0=>(eO q (X i).m (X i).L (X i).C).1
 |1=>(eO q (X i).m (X i).L (X i).C).2
 |2=>(dQ q (X i).m (X i).G (X i).C).1
 |_=>(dQ q (X i).m (X i).G (X i).C).2
noncomputable def YI(q:Query)(K:Nat->Nat->Int)(S:Nat->Nat->List UInt8)(no:Nat):AH:=hQ 16 [(14,.cells (aY q) (.ty 32)),(15,.rows no 9 (aX q.ng K S) (.ty 44))]
noncomputable def QZ(q:Query)(n:Nat)(X:Nat->bj)(K:Nat->Nat->Int)(S:Nat->Nat->List UInt8)(N:Int->Nat)(i:Int):St:={t:=Tr.ofList [(2,.ptr 14 0 0 0),(6,.own 15 (N i) 9),(21,.ab n 1 (qN q.ng X)),(22,.int .i64 (Int.ofNat n)),(23,.int .i64 i)],nt:=52,H:=YI q K S (N i),df:=[]}
noncomputable def Q0(q:Query)(n:Nat)(K:Nat->Nat->Int)(S:Nat->Nat->List UInt8):GE:=.one (.x 0 {t:=Tr.ofList [(2,.ptr 14 0 0 0),(6,.own 15 n 9)],nt:=52,H:=YI q K S n,df:=[]})
theorem Df(q)(n)(X)(K)(S)(N)(i)(Q):(kr [r6 q] [] 13 5001 15 (QZ q n X K S N) (λ_=>Q0 q n K S) (λi=>i+1) Q i)=(ah (decide (i<Int.ofNat n)) (aa (decide (0<=i)&&decide (i<Int.ofNat n)) (aa (qT q [AV.ab q.nw 3 (au q.C),AV.ab q.ng 1 (aR q.G),AV.int .i64 q.a,AV.int .i64 q.fl,AV.str q.nu,AV.str q.de,AV.int .i64 q.top]&&ct q&&On (bj.m (X i.toNat)) (az (bj.L (X i.toNat)) (bj.G (X i.toNat)) (bj.C (X i.toNat)))&&bX (bj.m (X i.toNat)) (ka (az (bj.L (X i.toNat)) (bj.G (X i.toNat)) (bj.C (X i.toNat))))&&bX (bj.m (X i.toNat)) (iF (az (bj.L (X i.toNat)) (bj.G (X i.toNat)) (bj.C (X i.toNat))))) (aa (decide (N i<=N i)&&true&&true&&decide ((N i+1)*152<=140737488355328)&&true) (aa (aN .i64 (i+1)) (ax (N i+1) (N (i+1)) (an (N i+1) (λb=>bif Nat.blt b (N i)then aX q.ng K S b else List.take 9 (List.drop (0+(b-N i)*9) [AV.ab q.ng 1 (ae (bj.W (X i.toNat))),AV.str (Prod.fst (eO q (bj.m (X i.toNat)) (ka (az (bj.L (X i.toNat)) (bj.G (X i.toNat)) (bj.C (X i.toNat)))) (iG (az (bj.L (X i.toNat)) (bj.G (X i.toNat)) (bj.C (X i.toNat)))))),AV.str (Prod.snd (eO q (bj.m (X i.toNat)) (ka (az (bj.L (X i.toNat)) (bj.G (X i.toNat)) (bj.C (X i.toNat)))) (iG (az (bj.L (X i.toNat)) (bj.G (X i.toNat)) (bj.C (X i.toNat)))))),AV.str (Prod.fst (dQ q (bj.m (X i.toNat)) (iF (az (bj.L (X i.toNat)) (bj.G (X i.toNat)) (bj.C (X i.toNat)))) (iG (az (bj.L (X i.toNat)) (bj.G (X i.toNat)) (bj.C (X i.toNat)))))),AV.str (Prod.snd (dQ q (bj.m (X i.toNat)) (iF (az (bj.L (X i.toNat)) (bj.G (X i.toNat)) (bj.C (X i.toNat)))) (iG (az (bj.L (X i.toNat)) (bj.G (X i.toNat)) (bj.C (X i.toNat)))))),AV.str [48],AV.str [49],AV.str [48],AV.str [49]])) (aX q.ng K S)/\zyN q.nw (zyR q.nw (au q.C) (zyN q.ng (zyR q.ng (aR q.G) (zyI q.a (zyI q.fl (zyB q.nu (zyB q.de (zyI q.top (zyB [48] (zyB [49] (zyR 5 aA (zyI (i+1) (zyN n ((an n (λi=>[AV.fc [AV.ab q.ng 1 (ae (X i).W),AV.ab (X i).m 3 (az (X i).L (X i).G (X i).C),AV.ab (X i).m 1 (ae (X i).T)] 0]) λi=>[AV.fc [AV.ab q.ng 1 (ae (X i).W),AV.ab (X i).m 3 (az (X i).L (X i).G (X i).C),AV.ab (X i).m 1 (ae (X i).T)] 0])/\ax (N i+1) (N (i+1)) (zyI (Int.ofNat n) Q))))))))))))))))))))) (ax (N i) n (zyR (N i) (aX q.ng K S) (zyN q.nw (zyR q.nw (au q.C) (zyN q.ng (zyR q.ng (aR q.G) (zyI q.a (zyI q.fl (zyB q.nu (zyB q.de (zyI q.top (zyB [48] (zyB [49] (zyR 5 aA (ax (N i) n True)))))))))))))))):=U
theorem Uz(q)(k)(F)(n)(X)(K)(S)(N)(Q):(kq [u5 q,uT,rZ q,Hg] [(5001,15,QZ q n X K S N 0,Q0 q n K S)] 13 [.agg (aY q),vo k F] Q)=(aa (qT q [AV.ab q.nw 3 (au q.C),AV.ab q.ng 1 (aR q.G),AV.int .i64 q.a,AV.int .i64 q.fl,AV.str q.nu,AV.str q.de,AV.int .i64 q.top]&&ct q) (aa (decide (k<=1000000)&&fh k λi=>eD (F i)) (ah (!cX k (bP λi=>eD (F i))) (Q (AV.qP [AV.aw,AV.int .i64 200])) (aa (qT q [AV.ab q.nw 3 (au q.C),AV.ab q.ng 1 (aR q.G),AV.int .i64 q.a,AV.int .i64 q.fl,AV.str q.nu,AV.str q.de,AV.int .i64 q.top]&&ct q&&Nat.ble k 1000000&&Ik k λi=>eD (F i)) (eu PP II false (aD II 13 5001) 15 (QZ q n X K S N 0) (Q0 q n K S)/\ax (N 0) 0 (zyN q.nw (zyR q.nw (au q.C) (zyN q.ng (zyR q.ng (aR q.G) (zyI q.a (zyI q.fl (zyB q.nu (zyB q.de (zyI q.top (zyB [48] (zyB [49] (zyR 5 aA (ax (List.length (aV q (bP λi=>eD (F i)) k)) n (an (List.length (aV q (bP λi=>eD (F i)) k)) (lX q.ng (List.length (aV q (bP λi=>eD (F i)) k)) (fj q.ng (aV q (bP λi=>eD (F i)) k))) (qN q.ng X)/\ax (N 0) 0 (aH (Int.ofNat (List.length (aV q (bP λi=>eD (F i)) k))) (Int.ofNat n) (aa (Nat.beq n n&&bt.free [AV.ab q.nw 3 (au q.C),AV.ab q.ng 1 (aR q.G),AV.int .i64 q.a,AV.int .i64 q.fl,AV.str q.nu,AV.str q.de,AV.int .i64 q.top]&&List.all (List.range n) λi=>bt.free (aX q.ng K S i)) (aa (oA [AV.ab q.nw 3 (au q.C),AV.ab q.ng 1 (aR q.G),AV.int .i64 q.a,AV.int .i64 q.fl,AV.str q.nu,AV.str q.de,AV.int .i64 q.top]&&wT q.ng n (aX q.ng K S)&&Ft n (nV (aX q.ng K S))&&Nat.ble n 1000000) (Q (AV.qP [AV.ab (ju {nw:=q.nw,C:=bG (au q.C),ng:=q.ng,G:=λj=>q.G j,a:=q.a,fl:=q.fl,nu:=q.nu,de:=q.de,top:=q.top} n (nV (aX q.ng K S))) 9 (aX q.ng (λj=>CZ (aX q.ng K S) (cS {nw:=q.nw,C:=bG (au q.C),ng:=q.ng,G:=λj=>q.G j,a:=q.a,fl:=q.fl,nu:=q.nu,de:=q.de,top:=q.top} n (nV (aX q.ng K S)) j)) λj=>nV (aX q.ng K S) (cS {nw:=q.nw,C:=bG (au q.C),ng:=q.ng,G:=λj=>q.G j,a:=q.a,fl:=q.fl,nu:=q.nu,de:=q.de,top:=q.top} n (nV (aX q.ng K S)) j)),AV.int .i64 0])))))))))))))))))))))))):=U
end Go.Sx
end
section
set_option maxRecDepth 1000000
namespace Go.Sx
open Go
theorem Dg(W):∀k,0<k->∃i,i<k/\jc W k=W i
 |0,h=>O
 |1,_=>⟨0,O,by show(if W 0<W 0 then W 0 else W 0)=W 0;split<;>rfl⟩
 |k+2,_=>by
  obtain⟨i,hi,e⟩:=Dg W (k+1) O
  show ∃i,i<k+2/\(if W (k+1)<jc W (k+1)then W (k+1)else jc W (k+1))=W i
  grind
theorem Dh(W):∀k,0<k->∃i,i<k/\cG W k=W i
 |0,h=>O
 |1,_=>⟨0,O,by show(if W 0>W 0 then W 0 else W 0)=W 0;split<;>rfl⟩
 |k+2,_=>by
  obtain⟨i,hi,e⟩:=Dh W (k+1) O
  show ∃i,i<k+2/\(if W (k+1)>cG W (k+1)then W (k+1)else cG W (k+1))=W i
  grind
theorem jx{x}(h:bB x=true):(0<=x.l/\x.l<=x.h/\x.h<=4398046511104)/\0<=x.b/\x.b<=24000:=by
 unfold bB at h
 grind
theorem xh{q x}(b:bB x=true){m}(a:m<jQ q x):0<=fT q x m/\fT q x m<=4398046511104:=by
 obtain⟨⟨c,d,e⟩,_⟩:=jx b
 have a:m<(NH q x (3*(q.nw+2))).length:=a
 have:fT q x m∈NH q x (3*(q.nw+2)):=by
  unfold fT
  rw[List.getD_eq_getElem?_getD,mo a]
  exact List.getElem_mem _
 have:=QP this
 unfold qS xG at this
 grind
theorem xi{q x}(hq:Hl q=true)(c:bB x=true)(d:gk q x=true):0<=kR q x/\kR q x<=4398046511104:=by
 obtain⟨⟨f,g,h⟩,j,k⟩:=jx c
 unfold kR
 rw[d]
 show 0<=(if q.a=1 then 1 else if q.fl=7 then x.b else match jA q x with|true=>x.l|false=>jc (fT q x) (jQ q x))/\(if q.a=1 then 1 else if q.fl=7 then x.b else match jA q x with|true=>x.l|false=>jc (fT q x) (jQ q x))<=4398046511104
 split
 ·omega
 ·split
  ·omega
  ·split
   ·omega
   ·obtain⟨i,hi,e⟩:=Dg (fT q x) (jQ q x) (wX hq d)
    rw[e];exact xh c hi
theorem FL{q x}(hq:Hl q=true)(c:bB x=true)(d:gk q x=true):0<=lJ q x/\lJ q x<=4398046511104:=by
 obtain⟨⟨f,g,j⟩,k,l⟩:=jx c
 unfold lJ
 rw[d]
 show 0<=(if q.a=1 then 1 else if q.fl=7 then x.b else match jA q x with|true=>x.h|false=>cG (fT q x) (jQ q x))/\(if q.a=1 then 1 else if q.fl=7 then x.b else match jA q x with|true=>x.h|false=>cG (fT q x) (jQ q x))<=4398046511104
 split
 ·omega
 ·split
  ·omega
  ·split
   ·omega
   ·obtain⟨i,hi,e⟩:=Dh (fT q x) (jQ q x) (wX hq d)
    rw[e];exact xh c hi
theorem xj{W m v}(h:fA W m)(a:0<=v/\v<=4398046511104):fA (gV W m v) (m+1):=λi hi=>by
 unfold gV
 by_cases e:i=m
 omega
 ·rw[if_neg e];exact h i O
structure Di (gs:List bj) (n:Nat):Prop where
 ms:∀a,a<gs.length->(aK gs a).m<=n
 lo:∀a,a<gs.length->fA (aK gs a).L (aK gs a).m
 hi:∀a,a<gs.length->fA (aK gs a).G (aK gs a).m
theorem y6{q}(F)(hq:Hl q=true):∀i,(∀j,j<i->bB (F j)=true)->Di (aV q F i) i
 |0,_=>⟨λj a=>absurd a (by simp[aV]),λj a=>absurd a (by simp[aV]),λj a=>absurd a (by simp[aV])⟩
 |i+1,b=>by
  obtain⟨g,c,d⟩:=y6 F hq i λj a=>b j O
  show Di (km q (aV q F i) i (F i)) (i+1)
  unfold km
  cases hp:gk q (F i)with
  |false=>exact⟨Y,c,d⟩
  |true=>
   simp only[cond_true]
   have e:=xi hq (b i O) hp
   have f:=FL hq (b i O) hp
   split
   ·rename_i j a
    obtain⟨a,_⟩:=lF a
    refine⟨λl hl=>?_,λl hl=>?_,λl hl=>?_⟩
    all_goals
     rw[List.length_set]at hl
     rw[gg a]
     by_cases h:l=j
    grind
    grind
    ·rw[if_pos h];exact xj (c j a) e
    grind
    ·rw[if_pos h];exact xj (d j a) f
    grind
   ·refine⟨λl hl=>?_,λl hl=>?_,λl hl=>?_⟩
    all_goals
     simp only[List.length_append,List.length_cons,List.length_nil]at hl
     rw[gh]
     by_cases h:l=(aV q F i).length
    grind
    grind
    ·rw[if_pos h];exactλ_ _=>e
    grind
    ·rw[if_pos h];exactλ_ _=>f
    grind
theorem y7{q k W C}(b:k<=1000)(a:fA W k)(hq:Hl q=true):bJ (eO q k W C).1 (eO q k W C).2=true:=by
 unfold eO
 have hn:=mU C k
 split
 ·obtain⟨j,d,e⟩:=eK (better:=λc=>decide (c<0)) (R:=ru q (aP C k) (bS C W k) (bQ (aP (λi=>!C i) k) (bS (λi=>!C i) W k))) (aP (λi=>!C i) k)
  rw[e]
  have f:=xq O (pI (fR (p:=C) a) (kP (fR (p:=λi=>!C i) a)))
  cases j with
  |zero=>exact vb (xq O (fR a)) hq
  |succ j=>exact vb (dD f O) hq
 ·obtain⟨j,d,e⟩:=eK (better:=λc=>decide (c<0)) (R:=br q (bQ k W)) k
  rw[e]
  cases j with
  |zero=>exact vb (k:=0) (W:=λ_=>0) A hq
  |succ j=>exact vb (dD (xq b (kP a)) O) hq
theorem y8{q k W C}(b:k<=1000)(a:fA W k)(hq:Hl q=true):bJ (dQ q k W C).1 (dQ q k W C).2=true:=by
 unfold dQ
 have hn:=mU C k
 split
 ·obtain⟨j,d,e⟩:=eK (better:=λc=>decide (c>0)) (R:=ru q (aP C k) (bS C W k) (cK (aP (λi=>!C i) k) (bS (λi=>!C i) W k))) (aP (λi=>!C i) k)
  rw[e]
  have f:=xq O (pI (fR (p:=C) a) (kQ (fR (p:=λi=>!C i) a)))
  cases j with
  |zero=>exact vb (xq O (fR a)) hq
  |succ j=>exact vb (dD f O) hq
 ·obtain⟨j,d,e⟩:=eK (better:=λc=>decide (c>0)) (R:=br q (cK k W)) k
  rw[e]
  cases j with
  |zero=>exact vb (k:=0) (W:=λ_=>0) A hq
  |succ j=>exact vb (dD (xq b (kQ a)) O) hq
end Go.Sx
end
section
set_option maxRecDepth 1000000
namespace Go.Sx
open Go
end Go.Sx
end
section
set_option maxRecDepth 1000000
namespace Go.Sx
open Go
def yc(q:Query)(X:Nat->bj):Nat->Nat->List UInt8:=nV (aX q.ng (dK X) (jC q X))
def N9(q:Query)(n:Nat)(X:Nat->bj):AV:=.qP [.ab (ju q n (yc q X)) 9 (aX q.ng (λj=>dK X (cS q n (yc q X) j)) λj=>jC q X (cS q n (yc q X) j)),.int .i64 0]
theorem uo(F):(bP λi=>eD (F i))=F:=rfl
theorem jR{k F}(h:cX k F=true):∀i,i<k->bB (F i)=true:=by
 unfold cX at h
 simp only[bf,bn]at h
 intro i hi
 have:=List.all_eq_true.1 h.1.1 i (List.mem_range.2 hi)
 unfold sQ at this
 grind
theorem jS{k F}(h:cX k F=true):k<=400:=by
 unfold cX at h
 grind
def r7(n:Nat)(X:Nat->bj):Prop := ∀i,i<n->(X i).m<=1000/\fA (X i).L (X i).m/\fA (X i).G (X i).m
theorem JQ(q)(n)(X)(i)(hi:i<n)(hn:n<=1000000)(hq:ct q=true)(hX:r7 n X)(j)(k:j=(i:Int))(Q)(hQ:Q):
  kr [r6 q] [] 13 5001 15 (QZ q n X (dK X) (jC q X) Int.toNat) (λ_=>Q0 q n (dK X) (jC q X)) (λi=>i+1) Q j:=by
 rw[Df]
 obtain⟨b,hL,hG⟩:=hX i hi
 have e1:Int.toNat j=i:=O
 have c:Int.toNat (j+1)=i+1:=O
 have l:Int.ofNat n=(n:Int):=rfl
 rw[e1,c]
 have d:ka (az (X i).L (X i).G (X i).C)=(X i).L:=rfl
 have e:iF (az (X i).L (X i).G (X i).C)=(X i).G:=rfl
 have f:iG (az (X i).L (X i).G (X i).C)=(X i).C:=rfl
 rw[d,e,f,jv,hq,rS,xq b hL,xq b hG]
 have rows:=AZ q.ng (dK X) (dK X) (jC q X) (jC q X) i i A A
 have m:=eP (i+1) q.ng (dK X) (jC q X)
 have g:an n (qN q.ng X) (qN q.ng X):=λi _ σ=>⟨⟨⟨⟨rfl,rfl,λj _=>jw _ _ j⟩,⟨rfl,rfl,λj _=>kS _ _ _ _ j⟩,⟨rfl,rfl,λj _=>jw _ _ j⟩,trivial⟩,rfl⟩,trivial⟩
 have h:(decide (i<=i)&&true&&true&&decide ((i+1)*152<=140737488355328)&&true)=true:=by rw[bW (dw i),bW O];rfl
 have a:aN .i64 (j+1)=true:=aq O O
 refine Zg (λ_=>?_) O
 refine cC _ _ Y (cC _ _ A (cC _ _ h (cC _ _ a ?_)))
 repeat' (first|with_reducible refine Zf A ?_|with_reducible refine YG A ?_|with_reducible refine Zi A ?_|with_reducible refine And.intro ?_ ?_|with_reducible exact bC _ _|with_reducible exact bO _ _|with_reducible exact aZ|assumption|assumption|exact rows|exact g)
theorem Q2(q)(n:Nat)(X)(j)(a:j=(n:Int))(Q):
  kr [r6 q] [] 13 5001 15 (QZ q n X (dK X) (jC q X) Int.toNat) (λ_=>Q0 q n (dK X) (jC q X)) (λi=>i+1) Q j:=by
 rw[Df]
 have e1:Int.toNat j=n:=O
 have b:Int.ofNat n=(n:Int):=rfl
 rw[e1]
 have c:=eP n q.ng (dK X) (jC q X)
 refine Zg O (λ_=>?_)
 repeat' (first|with_reducible refine Zf A ?_|with_reducible refine YG A ?_|with_reducible refine Zi A ?_|with_reducible refine And.intro ?_ ?_|with_reducible exact bC _ _|with_reducible exact bO _ _|with_reducible exact aZ|grind|simp)
theorem Oa(q)(n)(X)(hn:n<=1000000)(hq:ct q=true)(hX:r7 n X):eu PP II false (aD II 13 5001) 15 (QZ q n X (dK X) (jC q X) Int.toNat 0) (Q0 q n (dK X) (jC q X)):=by
 have key:=eu.of (ι:=Int) Hs [r6 q] (bm PP II []) 1000 (c:=aD II 13 5001) (ir:=false) 15 (λj=> ∃i:Nat,j=(i:Int)/\i<=n) (λj=>QZ q n X (dK X) (jC q X) Int.toNat j) (λ_=>Q0 q n (dK X) (jC q X)) (λj=>n-j.toNat) (λj=>j+1) 0 A ⟨0,rfl,Nat.zero_le _⟩ λj a=>?_
 ·exact key
 obtain⟨i,hi,b⟩:=a
 by_cases h:i<n
 ·exact JQ q n X i h hn hq hX j hi _ Y
 ·exact Q2 q n X j O _
theorem tm{q k F}(hq:Hl q=true)(b:cX k F=true):r7 (aV q F k).length (og q (aV q F k)):=λi hi=>by
 have f:=jS b
 obtain⟨c,d,e⟩:=y6 F hq k (jR b)
 have a:=u4 q.ng (aV q F k).length (fj q.ng (aV q F k)) hi
 exact⟨Nat.le_trans (c _ a) O,d _ a,e _ a⟩
theorem Q3{q n X}(hq:Hl q=true)(hX:r7 n X):Ft n (yc q X)=true:=List.all_eq_true.2 λi hi=>by
 obtain⟨a,b,c⟩:=hX i (List.mem_range.1 hi)
 show(bJ (eO q (X i).m (X i).L (X i).C).1 (eO q (X i).m (X i).L (X i).C).2&&bJ (dQ q (X i).m (X i).G (X i).C).1 (dQ q (X i).m (X i).G (X i).C).2)=true
 rw[y7 a b hq,y8 a c hq];rfl
theorem Hi(n g)(K)(S):((List.range n).all λi=>bt.free (aX g K S i))=true:=List.all_eq_true.2 λ_ _=>rfl
theorem Ob(q)(n)(S):ju {nw:=q.nw,C:=bG (au q.C),ng:=q.ng,G:=λj=>q.G j,a:=q.a,fl:=q.fl,nu:=q.nu,de:=q.de,top:=q.top} n S=ju q n S:=rfl
theorem Hj(q)(n)(S):cS {nw:=q.nw,C:=bG (au q.C),ng:=q.ng,G:=λj=>q.G j,a:=q.a,fl:=q.fl,nu:=q.nu,de:=q.de,top:=q.top} n S=cS q n S:=rfl
theorem Q4{q k F}(n)(X)(hq:ct q=true)(c:cX k F=true)(hn:(aV q F k).length=n)(d:an n (lX q.ng n (fj q.ng (aV q F k))) (qN q.ng X))(b:n<=1000000)(Fo:Ft n (yc q X)=true)
  (e:eu PP II false (aD II 13 5001) 15 (QZ q n X (dK X) (jC q X) Int.toNat 0) (Q0 q n (dK X) (jC q X))):kq [u5 q,uT,rZ q,Hg] [(5001,15,QZ q n X (dK X) (jC q X) Int.toNat 0,Q0 q n (dK X) (jC q X))] 13 [.agg (aY q),vo k F] (λa=> ∀σ,AV.le σ a (N9 q n X)):=by
 have l:=jS c
 obtain⟨r1,f,m⟩:=FX hq
 rw[Uz q k F n X (dK X) (jC q X) Int.toNat,uo,jv,hq,c,Ob,Hj,hn,jt r1 f,aaK,Hi]
 rw[show nV (aX q.ng (dK X) (jC q X))=yc q X from rfl,Fo]
 have g:Ik k (λi=>eD (F i))=true:=by
  unfold Ik
  rw[gr,Bool.true_and]
  exact List.all_eq_true.2 λi hi=>jR c i (List.mem_range.1 hi)
 have fl:=gU k F
 have a1:(Nat.beq n n&&bt.free (aY q)&&true)=true:=by rw[ni];rfl
 have a2:(true&&true&&true&&Nat.ble n 1000000)=true:=by rw[kV b];rfl
 refine cC _ _ A (cC _ _ (by rw[gr,bW O];rfl) (Zh (λh=>zE) λ_=>?_))
 refine cC _ _ (by rw[g,kV O];rfl) ⟨e,?_⟩
 repeat' (first|with_reducible refine Zf A ?_|with_reducible refine YG A ?_|with_reducible refine Zi A ?_|with_reducible refine And.intro ?_ ?_|with_reducible exact bC _ _|with_reducible exact bO _ _|with_reducible exact aZ|with_reducible exact d|with_reducible refine cC _ _ a2 ?_|with_reducible refine cC _ _ a1 ?_|refine cC _ _ a1 ?_)
 exactλσ=>⟨⟨rfl,rfl,λi _=>⟨⟨rfl,rfl,λj _=>⟨⟨rfl,rfl⟩,trivial⟩⟩,rfl,rfl,rfl,rfl,rfl,rfl,rfl,rfl,trivial⟩⟩,⟨rfl,rfl⟩,trivial⟩
theorem UA{q k F}(hq:ct q=true)(a:cX k F=true):af PP II 13 [.agg (aY q),vo k F] HR (.ret (N9 q (aV q F k).length (og q (aV q F k))) HR):=by
 have d:=jS a
 have b:=(lG q F k).len
 have hX:=tm (FX hq).2.2 a
 have c:=Oa q (aV q F k).length (og q (aV q F k)) O hq hX
 exact qh (Q4 _ _ hq a A (qM _ _ _) O (Q3 (FX hq).2.2 hX) c)
end Go.Sx
end
section
set_option maxRecDepth 1000000
namespace Go.Sx
open Go
end Go.Sx
end
section
set_option maxRecDepth 1000000
namespace Go.Sx
open Go
noncomputable def Ww:eT:=.cells [.any,.any] (.ty 30)
noncomputable def Xk(b:Nat)(x:List UInt8):AH:=WB (b+4) [(12,Ww),(13,Ww),(14,.cells [.bool false] (.ty 157)),(b,.cells [.ptr 14 0 0 0] (.ty 221)),(b+1,Ww),(b+2,.cells [.str x,.str [49]] (.ty 30)),(b+3,Ww)]
noncomputable def LI(b:Nat)(a:List UInt8):GE:=.one (.x 0 {t:=Tr.ofList [(5,.ptr (b+2) 0 0 0),(8,.ptr (b+3) 0 0 0)],nt:=25,H:=Xk b a,df:=[]})
end Go.Sx
end
section
set_option maxRecDepth 100000
namespace Go.Sx
open Go
theorem Rh{q}(ha:q.a=1)(k)(W):jO q k W=(k,1):=by
 unfold jO
 grind
theorem xl{q}(ha:q.a=1)(k)(W):(c8 q k W,da q k W)=(bu k,[49]):=by
 unfold c8 da
 rw[Rh ha]
 show(bu (k/Nat.gcd k 1),bu (1/Nat.gcd k 1))=_
 rw[Nat.gcd_one_right,Nat.div_one,Nat.div_one,GR]
theorem LJ(a b):bw (ao (bu a)) (ao [49]) (ao (bu b)) (ao [49])=if a<b then -1 else if b<a then 1 else 0:=by
 rw[cq,cq,il]
 unfold bw DA
 omega
theorem tz{R n}(a:∀i,R i=(bu (n+i),[49])):∀i,aS (λc=>decide (c<0)) R i=(bu n,[49])
 |0=>a 0
 |i+1=>by
  show(match decide (bw (ao (R (i+1)).1) (ao (R (i+1)).2) (ao (aS (λc=>decide (c<0)) R i).1) (ao (aS (λc=>decide (c<0)) R i).2)<0)with|true=>R (i+1)|false=>aS (λc=>decide (c<0)) R i)=_
  rw[tz a i,a (i+1),LJ,if_neg O,if_pos O]
  rfl
theorem tD{R n}(a:∀i,R i=(bu (n+i),[49])):∀i,aS (λc=>decide (c>0)) R i=(bu (n+i),[49])
 |0=>a 0
 |i+1=>by
  show(match decide (bw (ao (R (i+1)).1) (ao (R (i+1)).2) (ao (aS (λc=>decide (c>0)) R i).1) (ao (aS (λc=>decide (c>0)) R i).2)>0)with|true=>R (i+1)|false=>aS (λc=>decide (c>0)) R i)=_
  rw[tD a i,a (i+1),LJ,if_neg O,if_pos O]
  rfl
theorem NB{q}(ha:q.a=1)(c)(V b):∀i,ru q c V b i=(bu (c+i),[49])
 |0=>xl ha c V
 |i+1=>xl ha (c+(i+1)) (jB c V b)
theorem JX{q}(ha:q.a=1)(b):∀i,br q b i=(bu (0+i),[49])
 |0=>xl ha 0 _
 |i+1=>by rw[Nat.zero_add];exact xl ha (i+1) b
theorem Ri{C k}(h:(List.range k).any C=false):aP C k=0/\aP (λi=>!C i) k=k:=by
 rw[List.any_eq_false]at h
 unfold aP
 rw[List.filter_eq_nil_iff.2 h,List.filter_eq_self.2 λa ha=>by simp[h a ha],List.length_range]
 exact⟨rfl,rfl⟩
theorem JZ(C):∀k,aP C k+aP (λi=>!C i) k=k
 |0=>rfl
 |k+1=>by
  have a:=JZ C k
  cases h:C k with
  |true=>rw[iE h,kO (p:=λi=>!C i) Y];omega
  |false=>rw[kO h,iE (p:=λi=>!C i) Y];omega
theorem zu{q}(ha:q.a=1)(k)(W)(C):eO q k W C=(bu (aP C k),[49]):=by
 unfold eO
 cases b:(List.range k).any C with
 |true=>exact tz (NB ha _ _ _) _
 |false=>rw[(Ri b).1];exact tz (JX ha _) _
theorem zK{q}(ha:q.a=1)(k)(W)(C):dQ q k W C=(bu k,[49]):=by
 unfold dQ
 cases b:(List.range k).any C with
 |true=>rw[show bu k=bu (aP C k+aP (λi=>!C i) k) by rw[JZ]];exact tD (NB ha _ _ _) _
 |false=>
  have:=tD (JX ha (cK k W)) k
  grind
def xm(p:Nat->Bool)(m:Nat):Nat->Nat->Nat
 |0,n=>n
 |f+1,n=>bif Nat.blt n m&&p n then xm p m f (n+1)else n
theorem J5(p)(m):∀f n,n<=m->m<=n+f->n<=xm p m f n/\xm p m f n<=m/\(∀i,n<=i->i<xm p m f n->p i=true)/\(xm p m f n<m->p (xm p m f n)=false)
 |0,n,h1,d=>⟨dw _,h1,λi a b=>absurd (show i<n from b) O,λh=>absurd (show n<m from h) O⟩
 |f+1,n,h1,d=>by
  unfold xm
  cases c:Nat.blt n m&&p n with
  |false=>
   refine⟨dw _,h1,λi a b=>Y,λh=>?_⟩
   simp_all
  |true=>
   rw[bf,Nat.blt_eq]at c
   obtain⟨a1,a2,e,g⟩:=J5 p m f (n+1) c.1 O
   grind
def vc(Z:Nat->Int)(m n:Nat):Nat:=xm (λi=>decide (Z i=Z n)) m m n
theorem xn(Z){m n}(h:n<m):n<vc Z m n/\vc Z m n<=m/\(∀i,n<=i->i<vc Z m n->Z i=Z n)/\(vc Z m n<m->Z (vc Z m n)≠Z n):=by
 obtain⟨a1,a2,b,c⟩:=J5 (λi=>decide (Z i=Z n)) m m n (Nat.le_of_lt h) O
 refine⟨?_,a2,λi a d=>pT (b i a d),λh=>of_decide_eq_false (c h)⟩
 rcases Nat.lt_or_eq_of_le a1 with a|a
 ·exact a
 grind
def jy(Z:Nat->Int)(m:Nat):Nat->Nat
 |0=>0
 |j+1=>bif Nat.blt (jy Z m j) m then vc Z m (jy Z m j)else m
theorem Hr(Z)(m):∀j,jy Z m j<=m
 |0=>Nat.zero_le _
 |j+1=>by
  unfold jy
  cases h:Nat.blt (jy Z m j) m with
  |true=>exact(xn Z (Nat.blt_eq.mp h)).2.1
  |false=>exact dw _
theorem NC(Z)(m):∀j,j<=m->j<=jy Z m j
 |0,_=>Nat.zero_le _
 |j+1,h=>by
  have b:=NC Z m j O
  unfold jy
  cases a:Nat.blt (jy Z m j) m with
  |true=>have:=(xn Z (Nat.blt_eq.mp a)).1;grind
  |false=>exact h
theorem Rj(Z)(m):∃r,r<=m/\jy Z m r=m/\∀j,j<r->jy Z m j<m/\jy Z m (j+1)=vc Z m (jy Z m j):=by
 have go:∀d r,r+d=m->(∀j,j<r->jy Z m j<m)->∃r,r<=m/\jy Z m r=m/\∀j,j<r->jy Z m j<m:=λd=>by
  induction d with
  |zero=>exactλr h b=>⟨r,O,Nat.le_antisymm (Hr Z m r) (by have:=NC Z m r O;omega),b⟩
  |succ d f=>
   intro r h b
   rcases Nat.lt_or_ge (jy Z m r) m with a|a
   ·exact f (r+1) O λj c=>by
     grind
   ·exact⟨r,O,Nat.le_antisymm (Hr Z m r) a,b⟩
 obtain⟨r,a,g,e⟩:=go m 0 O O
 refine⟨r,a,g,λj c=>⟨e j c,?_⟩⟩
 show(bif Nat.blt (jy Z m j) m then vc Z m (jy Z m j)else m)=_
 rw[show Nat.blt (jy Z m j) m=true from Nat.blt_eq.mpr (e j c)];rfl
def pM(W:Nat->Nat):Nat->Nat
 |0=>0
 |n+1=>pM W n+W n
end Go.Sx
end
