/- Lemmas, part 20. -/
import Derived.Test.YtoijalagmmgkbaaGreatDoorX18
import Derived.Test.YtoijalagmmgkbaaGreatDoorX19
set_option linter.all false
set_option linter.defProp false
section
set_option maxRecDepth 1000000
namespace Go.Sx
open Go
theorem s8{n f}(h:aI 3 n f=true):aI 3 n (au (bG f))=true:=by
 refine List.all_eq_true.2 λj a=>?_
 have:=c7 h (List.mem_range.1 a)
 rw[(nP this).1]at this
 exact this
noncomputable def GU:aC PP II:=aC.pure 36
 (λX args a=>match args with
  |[.int .i64 agg,.ab n 3 f,.int .i64 g,.int .i64 top]=>X.bq (aI 3 n f&&aN .i64 agg&&aN .i64 g&&aN .i64 top) (a (.agg (aY (cJ agg n (bG f) g top))))
  |_=>X.fail)
 λX sem hX args a h=>by
  split at h
  ·rename_i agg n f g top
   obtain⟨b,d⟩:=hX.bq _ _ h
   simp only[bf]at b
   obtain⟨⟨⟨c,e⟩,j⟩,k⟩:=b
   refine⟨_,d,λ_=>rfl,λ_=>rfl,(MQ agg n (bG f) g top (s8 c) e j k).dq ⟨⟨rfl,rfl⟩,⟨rfl,rfl,λi hi=>?_⟩,⟨rfl,rfl⟩,⟨rfl,rfl⟩,trivial⟩⟩
   rw[(nP (c7 c hi)).1];exact jq (bG f) _ i
  ·exact zR
def oa(nu de:List UInt8):Bool:=(List.range 11).any λk=>decide (nu=wy k)&&decide (de=wz k)
noncomputable def SL:aC PP II:=aC.pure 136
 (λX args b=>match args with
  |[.agg [.str nu,.str de]]=>X.bq (oa nu de) (b (.bool true))
  |_=>X.fail)
 λX sem hX args b h=>by
  split at h
  ·rename_i nu de
   obtain⟨c,d⟩:=hX.bq _ _ h
   obtain⟨k,e,a⟩:=List.any_eq_true.1 c
   simp only[bf,bn]at a
   have:=Qk (k:=k) Y
   rw[a.1,a.2]
   exact⟨_,d,λ_=>rfl,λ_=>rfl,this⟩
  ·exact zR
noncomputable def I5(q:Query)(i:Int):St:={t:=Tr.ofList [(1,.ptr 12 0 0 0),(35,.ab q.nw 3 (au q.C)),(36,.int .i64 q.nw),(37,.int .i64 i)],nt:=121,H:={n:=13,t:=Tr.ofList [(12,.cells (aY q) (.ty 32))]},df:=[]}
noncomputable def I6(q:Query)(i:Int):St:={t:=Tr.ofList [(1,.ptr 12 0 0 0),(59,.ab q.ng 1 (aR q.G)),(60,.int .i64 q.ng),(61,.int .i64 i)],nt:=121,H:={n:=13,t:=Tr.ofList [(12,.cells (aY q) (.ty 32))]},df:=[]}
noncomputable def Nb(q:Query)(i:Int):GE:=.one (.x 0 (I5 q i))
noncomputable def ES(q:Query)(i:Int):GE:=.one (.x 2 (I6 q i))
theorem Cr(q)(i b)(Q):(kr [] [] 80 4001 13 (I5 q) (λ_=>Nb q b) (λi=>i+1) Q i)=(ah (decide (i<Int.ofNat q.nw)) (aa (decide (0<=i)&&decide (i<Int.ofNat q.nw)) (ah (decide (q.C i.toNat 0>=1)) (ah (!decide (q.C i.toNat 0<=8)) False (ah (decide (q.C i.toNat 1>=1)) (ah (!decide (q.C i.toNat 1<=4)) False (ah (decide (q.C i.toNat 2>=(-1:Int))) (ah (!decide (q.C i.toNat 2<=4398046511104)) False (aa (aN .i64 (i+1)) (zyN q.nw (zyR q.nw (au q.C) (zyN q.ng (zyR q.ng (aR q.G) (zyI q.a (zyI q.fl (zyB q.nu (zyB q.de (zyI q.top (zyN q.nw (zyR q.nw (au q.C) (zyI (i+1) (zyI (Int.ofNat q.nw) Q))))))))))))))) False)) False)) False)) (zyN q.nw (zyR q.nw (au q.C) (zyN q.ng (zyR q.ng (aR q.G) (zyI q.a (zyI q.fl (zyB q.nu (zyB q.de (zyI q.top (zyN q.nw (zyR q.nw (au q.C) (aH i b (zyI (Int.ofNat q.nw) True)))))))))))))):=U
theorem Cs(q)(i c)(Q):(kr [] [] 80 10001 13 (I6 q) (λ_=>ES q c) (λi=>i+1) Q i)=(let b:=(aa (aN .i64 (i+1)) (zyN q.nw (zyR q.nw (au q.C) (zyN q.ng (zyR q.ng (aR q.G) (zyI q.a (zyI q.fl (zyB q.nu (zyB q.de (zyI q.top (zyN q.ng (zyR q.ng (aR q.G) (zyI (i+1) (zyI (Int.ofNat q.ng) Q))))))))))))));(ah (decide (i<Int.ofNat q.ng)) (aa (decide (0<=i)&&decide (i<Int.ofNat q.ng)) (ah (decide (q.G i.toNat>=1)) (ah (!decide (q.G i.toNat<=6)) False (ah (decide (i>0)) (aa (aN .i64 (i-1)) (aa (decide (0<=i-1)&&decide (i-1<Int.ofNat q.ng)) (ah (decide (q.G i.toNat<=q.G (Int.toNat (i-1)))) False b))) b)) False)) (zyN q.nw (zyR q.nw (au q.C) (zyN q.ng (zyR q.ng (aR q.G) (zyI q.a (zyI q.fl (zyB q.nu (zyB q.de (zyI q.top (zyN q.ng (zyR q.ng (aR q.G) (aH i c (zyI (Int.ofNat q.ng) True))))))))))))))):=U
theorem ET(q)(d f)(Q):(kb [SL] [(4001,13,I5 q 0,Nb q d),(10001,13,I6 q 0,ES q f)] 80 [.agg (aY q)] Q)=(let c:=(zyR q.nw (au q.C) (zyN q.ng (zyR q.ng (aR q.G) (zyI q.a (zyI q.fl (zyB q.nu (zyB q.de (zyI q.top (zyN q.ng (zyR q.ng (aR q.G) (zyI (Int.ofNat q.ng) (ah (decide (q.a=1)) (ah (decide (q.fl=0)) (Q (AV.bool (List.beq q.nu []&&(List.beq q.de []&&true)))) (Q (AV.bool false))) (ah (decide (q.a=5)) (ah (decide (q.fl>=7)) (ah (decide (q.fl<=8)) (aa (oa q.nu q.de) (Q (AV.bool true))) (Q (AV.bool false))) (Q (AV.bool false))) (ah (decide (q.a>=2)) (ah (decide (q.a<=4)) (ah (decide (q.fl>=7)) (ah (decide (q.fl<=8)) (Q (AV.bool (List.beq q.nu []&&(List.beq q.de []&&true)))) (Q (AV.bool false))) (Q (AV.bool false))) (Q (AV.bool false))) (Q (AV.bool false))))))))))))))));let b:=(eT.cells (aY q) (Access.ty 32));(ah (decide (Int.ofNat q.nw>6)) (Q (AV.bool false)) (ah (decide (Int.ofNat q.ng>3)) (Q (AV.bool false)) (ah (decide (q.top>=0)) (ah (!decide (q.top<=100)) (Q (AV.bool false)) (ah (decide (q.top>0)) (ah (decide (Int.ofNat q.ng=0)) (Q (AV.bool false)) (eu PP II false (aD II 80 4001) 13 {t:=.n (.n (.n .e none (.n (.n (.n .e (some (AV.ab q.nw 3 (au q.C))) .e) none .e) none .e)) (some (AV.ptr 12 0 0 0)) (.n .e none (.n (.n (.n .e (some (AV.int .i64 0)) .e) none .e) none .e))) none (.n (.n .e none (.n (.n (.n .e (some (AV.int .i64 (Int.ofNat q.nw))) .e) none .e) none .e)) none .e),nt:=121,H:={n:=13,t:=.n .e none (.n (.n .e none (.n .e (some b) .e)) none .e)},df:=[]} (GE.one (aQ.x 0 {t:=.n (.n (.n .e none (.n (.n (.n .e (some (AV.ab q.nw 3 (au q.C))) .e) none .e) none .e)) (some (AV.ptr 12 0 0 0)) (.n .e none (.n (.n (.n .e (some (AV.int .i64 d)) .e) none .e) none .e))) none (.n (.n .e none (.n (.n (.n .e (some (AV.int .i64 (Int.ofNat q.nw))) .e) none .e) none .e)) none .e),nt:=121,H:={n:=13,t:=.n .e none (.n (.n .e none (.n .e (some b) .e)) none .e)},df:=[]}))/\zyN q.nw (zyR q.nw (au q.C) (zyN q.ng (zyR q.ng (aR q.G) (zyI q.a (zyI q.fl (zyB q.nu (zyB q.de (zyI q.top (zyN q.nw (zyR q.nw (au q.C) (zyI (Int.ofNat q.nw) (eu PP II false (aD II 80 10001) 13 {t:=.n (.n (.n .e none (.n .e none (.n .e none (.n .e (some (AV.ab q.ng 1 (aR q.G))) .e)))) (some (AV.ptr 12 0 0 0)) (.n .e none (.n .e none (.n .e none (.n .e (some (AV.int .i64 0)) .e))))) none (.n (.n .e none (.n .e none (.n .e none (.n .e (some (AV.int .i64 (Int.ofNat q.ng))) .e)))) none .e),nt:=121,H:={n:=13,t:=.n .e none (.n (.n .e none (.n .e (some b) .e)) none .e)},df:=[]} (GE.one (aQ.x 2 {t:=.n (.n (.n .e none (.n .e none (.n .e none (.n .e (some (AV.ab q.ng 1 (aR q.G))) .e)))) (some (AV.ptr 12 0 0 0)) (.n .e none (.n .e none (.n .e none (.n .e (some (AV.int .i64 f)) .e))))) none (.n (.n .e none (.n .e none (.n .e none (.n .e (some (AV.int .i64 (Int.ofNat q.ng))) .e)))) none .e),nt:=121,H:={n:=13,t:=.n .e none (.n (.n .e none (.n .e (some b) .e)) none .e)},df:=[]}))/\zyN q.nw c)))))))))))))) (eu PP II false (aD II 80 4001) 13 {t:=.n (.n (.n .e none (.n (.n (.n .e (some (AV.ab q.nw 3 (au q.C))) .e) none .e) none .e)) (some (AV.ptr 12 0 0 0)) (.n .e none (.n (.n (.n .e (some (AV.int .i64 0)) .e) none .e) none .e))) none (.n (.n .e none (.n (.n (.n .e (some (AV.int .i64 (Int.ofNat q.nw))) .e) none .e) none .e)) none .e),nt:=121,H:={n:=13,t:=.n .e none (.n (.n .e none (.n .e (some b) .e)) none .e)},df:=[]} (GE.one (aQ.x 0 {t:=.n (.n (.n .e none (.n (.n (.n .e (some (AV.ab q.nw 3 (au q.C))) .e) none .e) none .e)) (some (AV.ptr 12 0 0 0)) (.n .e none (.n (.n (.n .e (some (AV.int .i64 d)) .e) none .e) none .e))) none (.n (.n .e none (.n (.n (.n .e (some (AV.int .i64 (Int.ofNat q.nw))) .e) none .e) none .e)) none .e),nt:=121,H:={n:=13,t:=.n .e none (.n (.n .e none (.n .e (some b) .e)) none .e)},df:=[]}))/\zyN q.nw (zyR q.nw (au q.C) (zyN q.ng (zyR q.ng (aR q.G) (zyI q.a (zyI q.fl (zyB q.nu (zyB q.de (zyI q.top (zyN q.nw (zyR q.nw (au q.C) (zyI (Int.ofNat q.nw) (eu PP II false (aD II 80 10001) 13 {t:=.n (.n (.n .e none (.n .e none (.n .e none (.n .e (some (AV.ab q.ng 1 (aR q.G))) .e)))) (some (AV.ptr 12 0 0 0)) (.n .e none (.n .e none (.n .e none (.n .e (some (AV.int .i64 0)) .e))))) none (.n (.n .e none (.n .e none (.n .e none (.n .e (some (AV.int .i64 (Int.ofNat q.ng))) .e)))) none .e),nt:=121,H:={n:=13,t:=.n .e none (.n (.n .e none (.n .e (some b) .e)) none .e)},df:=[]} (GE.one (aQ.x 2 {t:=.n (.n (.n .e none (.n .e none (.n .e none (.n .e (some (AV.ab q.ng 1 (aR q.G))) .e)))) (some (AV.ptr 12 0 0 0)) (.n .e none (.n .e none (.n .e none (.n .e (some (AV.int .i64 f)) .e))))) none (.n (.n .e none (.n .e none (.n .e none (.n .e (some (AV.int .i64 (Int.ofNat q.ng))) .e)))) none .e),nt:=121,H:={n:=13,t:=.n .e none (.n (.n .e none (.n .e (some b) .e)) none .e)},df:=[]}))/\zyN q.nw c))))))))))))))) (Q (AV.bool false)))))):=U
end Go.Sx
end
section
set_option maxRecDepth 1000000
namespace Go.Sx
open Go
def EU(q:Query):Bool:=(List.range q.nw).all λj=>decide (1<=q.C j 0)&&decide (q.C j 0<=8)&&decide (1<=q.C j 1)&&decide (q.C j 1<=4)&&decide (-1<=q.C j 2)&&decide (q.C j 2<=4398046511104)
def AG(q:Query):Bool:=(List.range q.ng).all λj=>decide (1<=q.G j)&&decide (q.G j<=6)&&(Nat.beq j 0||decide (q.G (j-1)<q.G j))
def WL(q:Query):Bool:=decide (0<=q.top)&&decide (q.top<=100)&&(decide (q.top<=0)||Nat.blt 0 q.ng)
def EV(q:Query):Bool:=(decide (q.a=1)&&decide (q.fl=0)&&decide (q.nu=[])&&decide (q.de=[]))||(decide (q.a=5)&&(decide (q.fl=7)||decide (q.fl=8))&&oa q.nu q.de) ||
 (decide (2<=q.a)&&decide (q.a<=4)&&(decide (q.fl=7)||decide (q.fl=8))&&decide (q.nu=[])&&decide (q.de=[]))
def Hl(q:Query):Bool:=decide (q.nw<=6)&&decide (q.ng<=3)&&EU q&&AG q&&WL q&&EV q
theorem wA{p}[Decidable p]{x y}(h:p)(k:y):ah (!decide p) x y:=by rw[bW h];exact k
theorem yO{q}(h:EU q=true){j}(a:j<q.nw):(1<=q.C j 0/\q.C j 0<=8)/\(1<=q.C j 1/\q.C j 1<=4)/\(-1<=q.C j 2/\q.C j 2<=4398046511104):=by
 have:=List.all_eq_true.1 h j (List.mem_range.2 a)
 grind
theorem EW{q}(h:AG q=true){j}(a:j<q.ng):(1<=q.G j/\q.G j<=6)/\(j=0∨q.G (j-1)<q.G j):=by
 have:=List.all_eq_true.1 h j (List.mem_range.2 a)
 simp_all
theorem Ct(q)(hn:q.nw<=6)(h:EU q=true):eu PP II false (aD II 80 4001) 13 (I5 q 0) (Nb q q.nw):=
 eu.of (ι:=Int) Hs [] (bm PP II []) 1000 13 (λi=>0<=i/\i<=q.nw) (I5 q) (λ_=>Nb q q.nw) (λi=>(q.nw-i).toNat) (λi=>i+1) 0 A ⟨Int.le_refl _,Int.natCast_nonneg _⟩ λi hi=>by
  refine(Cr q i q.nw _).mpr ?_
  have e:Int.ofNat q.nw=(q.nw:Int):=rfl
  have same:∀{x y:Int}{Z:Prop},x=y->Z->ax (Query.nw q) (Query.nw q) (an (Query.nw q) (au (Query.C q)) (au (Query.C q))/\ax (Query.ng q) (Query.ng q) (an (Query.ng q) (aR (Query.G q)) (aR (Query.G q))/\aH (Query.a q) (Query.a q) (aH (Query.fl q) (Query.fl q) (bI (Query.nu q) (Query.nu q) (bI (Query.de q) (Query.de q) (aH (Query.top q) (Query.top q)
    (ax (Query.nw q) (Query.nw q) (an (Query.nw q) (au (Query.C q)) (au (Query.C q))/\aH x y (aH (Int.ofNat (Query.nw q)) (Int.ofNat (Query.nw q)) Z))))))))):=λh b=>
   YG A ⟨bC _ _,YG A ⟨bO _ _,Zf A (Zf A (Zi A (Zi A (Zf A (YG A ⟨bC _ _,Zf h (Zf A b)⟩)))))⟩⟩
  refine Zg (λd=>?_) λf=>Y
  have c:=yO h (j:=i.toNat) O
  refine cC _ _ Y ?_
  refine Zg (λ_=>wA c.1.2 (Zg (λ_=>wA c.2.1.2 (Zg (λ_=>wA c.2.2.2 (cC _ _ (aq O O) Y)) O)) O)) O
theorem Cu(q)(hn:q.ng<=3)(h:AG q=true):eu PP II false (aD II 80 10001) 13 (I6 q 0) (ES q q.ng):=
 eu.of (ι:=Int) Hs [] (bm PP II []) 1000 13 (λi=>0<=i/\i<=q.ng) (I6 q) (λ_=>ES q q.ng) (λi=>(q.ng-i).toNat) (λi=>i+1) 0 A ⟨Int.le_refl _,Int.natCast_nonneg _⟩ λi hi=>by
  refine(Cs q i q.ng _).mpr ?_
  have e:Int.ofNat q.ng=(q.ng:Int):=rfl
  have same:∀{x y:Int}{Z:Prop},x=y->Z->ax (Query.nw q) (Query.nw q) (an (Query.nw q) (au (Query.C q)) (au (Query.C q))/\ax (Query.ng q) (Query.ng q) (an (Query.ng q) (aR (Query.G q)) (aR (Query.G q))/\aH (Query.a q) (Query.a q) (aH (Query.fl q) (Query.fl q) (bI (Query.nu q) (Query.nu q) (bI (Query.de q) (Query.de q) (aH (Query.top q) (Query.top q)
    (ax (Query.ng q) (Query.ng q) (an (Query.ng q) (aR (Query.G q)) (aR (Query.G q))/\aH x y (aH (Int.ofNat (Query.ng q)) (Int.ofNat (Query.ng q)) Z))))))))):=λh b=>
   YG A ⟨bC _ _,YG A ⟨bO _ _,Zf A (Zf A (Zi A (Zi A (Zf A (YG A ⟨bO _ _,Zf h (Zf A b)⟩)))))⟩⟩
  refine Zg (λf=>?_) λg=>Y
  have c:=EW h (j:=i.toNat) O
  have d:aN .i64 (i+1)=true:=aq O O
  have fin:(0<=i+1/\i+1<=(q.ng:Int))/\((q.ng:Int)-(i+1)).toNat<((q.ng:Int)-i).toNat/\(ES q q.ng).pick=(ES q q.ng).pick:=Y
  refine cC _ _ Y ?_
  refine Zg (λ_=>wA c.1.2 (Zg (λk=>cC _ _ (aq O O) (cC _ _ Y (Zg (λl=>?_) λ_=>cC _ _ d (same A fin)))) λk=>cC _ _ d (same A fin))) O
  grind
theorem EX(q)(h:Hl q=true):af PP II 80 [.agg (aY q)] (AH.blank 12) (.ret (.bool true) (AH.blank 12)):=by
 simp only[Hl,bf,bn]at h
 obtain⟨⟨⟨⟨⟨f,g⟩,i⟩,j⟩,k⟩,e⟩:=h
 have l:=Ct q f i
 have m:=Cu q g j
 refine bY (ks:=[SL]) (T:=[(4001,13,I5 q 0,Nb q q.nw),(10001,13,I6 q 0,ES q q.ng)]) (λ_=>rfl) ?_
 rw[ET]
 simp only[WL,bf,Bool.or_eq_true,bn,Nat.blt_eq]at k
 simp only[EV,bf,Bool.or_eq_true,bn]at e
 have c:∀{Z:Prop},Z->ax q.nw q.nw (an q.nw (au q.C) (au q.C)/\ax q.ng q.ng (an q.ng (aR q.G) (aR q.G)/\aH q.a q.a (aH q.fl q.fl (bI q.nu q.nu (bI q.de q.de (aH q.top q.top (ax q.nw q.nw (an q.nw (au q.C) (au q.C)/\aH (Int.ofNat q.nw) (Int.ofNat q.nw) Z)))))))):=λb=>
  YG A ⟨bC _ _,YG A ⟨bO _ _,Zf A (Zf A (Zi A (Zi A (Zf A (YG A ⟨bC _ _,Zf A b⟩)))))⟩⟩
 have d:∀{Z:Prop},Z->ax q.nw q.nw (an q.nw (au q.C) (au q.C)/\ax q.ng q.ng (an q.ng (aR q.G) (aR q.G)/\aH q.a q.a (aH q.fl q.fl (bI q.nu q.nu (bI q.de q.de (aH q.top q.top (ax q.ng q.ng (an q.ng (aR q.G) (aR q.G)/\aH (Int.ofNat q.ng) (Int.ofNat q.ng) Z)))))))):=λb=>
  YG A ⟨bC _ _,YG A ⟨bO _ _,Zf A (Zf A (Zi A (Zi A (Zf A (YG A ⟨bO _ _,Zf A b⟩)))))⟩⟩
 have o:Int.ofNat q.nw=(q.nw:Int):=rfl
 have p:Int.ofNat q.ng=(q.ng:Int):=rfl
 have n:ah (decide (q.a=1)) (ah (decide (q.fl=0)) (AV.bool (List.beq q.nu []&&(List.beq q.de []&&true))=AV.bool true) (AV.bool false=AV.bool true)) (ah (decide (q.a=5)) (ah (decide (q.fl>=7)) (ah (decide (q.fl<=8)) (aa (oa q.nu q.de) (AV.bool true=AV.bool true)) (AV.bool false=AV.bool true)) (AV.bool false=AV.bool true)) (ah (decide (q.a>=2)) (ah (decide (q.a<=4)) (ah (decide (q.fl>=7)) (ah (decide (q.fl<=8)) (AV.bool (List.beq q.nu []&&(List.beq q.de []&&true))=AV.bool true) (AV.bool false=AV.bool true)) (AV.bool false=AV.bool true)) (AV.bool false=AV.bool true)) (AV.bool false=AV.bool true))):=by
  rcases e with(⟨⟨⟨g1,g2⟩,g3⟩,g4⟩|⟨⟨g1,g2⟩,g3⟩)|⟨⟨⟨⟨g1,g2⟩,g3⟩,g4⟩,g5⟩
  ·exact Zg (λ_=>Zg ZD λh=>absurd g2 h) λh=>absurd g1 h
  ·exact Zg (λh=>O) λ_=>Zg (λ_=>Zg (λ_=>Zg (λ_=>cC _ _ g3 A) λh=>O) λh=>O) λh=>absurd g1 h
  ·exact Zg (λh=>O) λ_=>Zg (λh=>O) λ_=>Zg (λ_=>Zg (λ_=>Zg (λ_=>Zg ZD λh=>O) λh=>O) λh=>O) λh=>O
 have fin:=And.intro l (c (And.intro m (d n)))
 repeat' (first
  |exact fin
  |refine Zg (λh=>?_) λh=>?_
  |exact wA O ?_
  |refine Zh (λh=>?_) λh=>?_
  |grind
  |omega)
end Go.Sx
end
section
set_option maxRecDepth 1000000
namespace Go.Sx
open Go
theorem GV{cs}(h:TO 1 cs=true):cs=[.int .i64 (bV cs 0)]:=by
 obtain⟨a,b⟩:=pC 1 cs h
 obtain⟨a0,c⟩:=b 0 O
 match cs,a with
 |[x],_=>
  grind
theorem nQ{nw ng f g a fl top nu de}(b:aI 3 nw f=true)(c:aI 1 ng g=true):
  bt.le (λl=>l) [.ab nw 3 f,.ab ng 1 g,.int .i64 a,.int .i64 fl,.str nu,.str de,.int .i64 top] (aY ⟨nw,bG f,ng,λj=>bV (g j) 0,a,fl,nu,de,top⟩):=by
 refine⟨⟨rfl,rfl,λi hi=>?_⟩,⟨rfl,rfl,λi hi=>?_⟩,⟨rfl,rfl⟩,⟨rfl,rfl⟩,rfl,rfl,⟨rfl,rfl⟩,trivial⟩
 ·rw[(nP (c7 b hi)).1];exact jq (bG f) _ i
 ·rw[GV (c7 c hi)];exact pF (λj=>bV (g j) 0) _ i
noncomputable def lQ:aC PP II:=aC.pure 80
 (λX args c=>match args with
  |[.agg [.ab nw 3 f,.ab ng 1 g,.int .i64 a,.int .i64 fl,.str nu,.str de,.int .i64 top]]=>X.bq (aI 3 nw f&&aI 1 ng g) (X.bq (Hl ⟨nw,bG f,ng,λj=>bV (g j) 0,a,fl,nu,de,top⟩) (c (.bool true)))
  |_=>X.fail)
 λX sem hX args c h=>by
  split at h
  ·obtain⟨b,d⟩:=hX.bq _ _ h
   obtain⟨e,i⟩:=hX.bq _ _ d
   rw[bf]at b
   exact⟨_,i,λ_=>rfl,λ_=>rfl,(EX _ e).dq ⟨nQ b.1 b.2,trivial⟩⟩
  ·exact zR
theorem oH(q):Hl ⟨q.nw,bG (au q.C),q.ng,λj=>q.G j,q.a,q.fl,q.nu,q.de,q.top⟩=Hl q:=rfl
theorem yP{n:Nat}{f:Nat->List AV}(h:aI 1 n f=true):aI 1 n (aR λj=>bV (f j) 0)=true:=by
 refine List.all_eq_true.2 λj a=>?_
 have:=c7 h (List.mem_range.1 a)
 rw[GV this]at this
 exact this
end Go.Sx
end
section
set_option maxRecDepth 1000000
namespace Go.Sx
open Go
noncomputable def Kf(b:Bool):GE:=.cond b (.one (.r {t:=Tr.ofList [(4,.bool true)],nt:=80,H:=AH.blank 14,df:=[]})) (.one (.x 0 {t:=.e,nt:=80,H:=AH.blank 14,df:=[]}))
end Go.Sx
end
section
set_option maxRecDepth 1000000
namespace Go.Sx
open Go
theorem Zl{p}[Decidable p]{x y}(h :¬ p->x)(k:p->y):ah (!decide p) x y:=by
 by_cases hp:p
 ·rw[bW hp];exact k hp
 ·rw[nZ hp];exact h hp
end Go.Sx
end
section
namespace Go.Sx.Small
inductive Pt where
 |fact
 |closed
 |node (l r:Pt)
def kinds:Pt->List Int
 | .fact=>[2]
 | .closed=>[3]
 | .node l r=>1::(kinds l++kinds r)
def facts:Pt->Nat
 | .fact=>1
 | .closed=>0
 | .node l r=>facts l+facts r
def opens:Pt->Nat
 | .node l r=>1+opens l+opens r
 |_=>0
def kl:Pt->Nat
 | .node l r=>1+max (kl l) (kl r)
 |_=>0
def qg:Pt->Bool
 | .node l r=>Nat.beq (facts l+facts r) 0||(qg l||qg r)
 |_=>false
def Qx:List Int->Int->Nat->Nat
 |[],_,f=>f
 |k::ks,left,f=>bif decide (left>0)then Qx ks (bif decide (k=1)then left-1+2 else left-1) (bif decide (k=2)then f+1 else f)else f
def rK:List Int->Bool
 |[]=>false
 |k::ks=>(decide (k=1)&&Nat.beq (Qx ks 2 0) 0)||rK ks
def mb:List Int->Nat
 |[]=>0
 |k::ks=>(bif decide (k=2)then 1 else 0)+mb ks
def bits:Nat->Nat->Nat
 |0,_=>0
 |c+1,n=>bif Nat.beq n 0 then 0 else 1+bits c (n/2)
theorem Nj(l)(f):Qx l 0 f=f:=by cases l<;>simp[Qx]
theorem yT:∀(p:Pt)(rest:List Int)(left:Int)(f:Nat),0<=left->Qx (kinds p++rest) (left+1) f=Qx rest left (f+facts p):=by
 intro p
 induction p with
 |fact=>intro rest left f h;simp[kinds,Qx,facts,show(left+1>0)from by omega]
 |closed=>intro rest left f h;simp[kinds,Qx,facts,show(left+1>0)from by omega]
 |node l r a b=>
  intro rest left f h
  simp only[kinds,List.cons_append,Qx,bW (show(left+1>0)from by omega),cond_true,decide_true,show decide ((1:Int)=2)=false from rfl,cond_false]
  rw[show left+1-1+2=(left+1)+1 by omega,List.append_assoc,a _ _ _ (by omega),b _ _ _ h,facts,Nat.add_assoc]
theorem Fb:∀(p)(rest),rK (kinds p++rest)=(qg p||rK rest):=by
 intro p
 induction p with
 |fact=>intro rest;rfl
 |closed=>intro rest;rfl
 |node l r a b=>
  intro rest
  simp only[kinds,List.cons_append,rK,decide_true,Bool.true_and,qg]
  rw[List.append_assoc,a,b,show(2:Int)=(1:Int)+1 from rfl,yT l _ 1 0 (by omega),show(1:Int)=(0:Int)+1 from rfl,yT r _ 0 _ (by omega),Nj]
  grind
theorem Cz:∀(p)(rest),mb (kinds p++rest)=facts p+mb rest:=by
 intro p
 induction p with
 |fact=>intro rest;rfl
 |closed=>intro rest;rfl
 |node l r a b=>
  intro rest
  simp only[kinds,List.cons_append,mb,facts,show decide ((1:Int)=2)=false from rfl,cond_false,Nat.zero_add]
  grind
theorem Jg:∀p,(kinds p).length=2*opens p+1:=by
 intro p
 induction p with
 |fact=>rfl
 |closed=>rfl
 |node l r a b=>simp only[kinds,List.length_cons,List.length_append,a,b,opens];omega
theorem Nk:∀p,qg p=false->opens p<=facts p*kl p:=by
 intro p
 induction p with
 |fact=>intro _;simp[opens]
 |closed=>intro _;simp[opens]
 |node l r a b=>
  intro h
  simp only[qg,Bool.or_eq_false_iff]at h
  have c:facts l+facts r≠0:=λe=>by simp_all
  have d:=a h.2.1
  have f:=b h.2.2
  have a1:facts l*kl l<=facts l*max (kl l) (kl r):=Nat.mul_le_mul_left _ (Nat.le_max_left _ _)
  have a2:facts r*kl r<=facts r*max (kl l) (kl r):=Nat.mul_le_mul_left _ (by omega)
  simp only[opens,facts,kl,Nat.mul_add,Nat.mul_one,Nat.add_mul]
  omega
theorem small(p)(m h)(f:opens p+1<=m)(a:kl p<=h)(d)(b:h<=d):
  (kinds p).length<=2*m-1/\(rK (kinds p)=true∨(kinds p).length<=max 1 (mb (kinds p)+2*mb (kinds p)*d)):=by
 have e1:=Jg p
 have c:mb (kinds p)=facts p:=by have:=Cz p [];simpa [mb]using this
 have e:rK (kinds p)=qg p:=by have:=Fb p [];simpa [rK]using this
 refine⟨by omega,?_⟩
 rw[e,c,e1]
 cases hi:qg p with
 |true=>exact .inl rfl
 |false=>
  right
  have g:=Nk p hi
  by_cases i:facts p=0
  grind
  ·have j:facts p*kl p<=facts p*d:=Nat.mul_le_mul_left _ (Nat.le_trans a b)
   grind
end Go.Sx.Small
end
section
set_option maxRecDepth 1000000
namespace Go.Sx
open Go
theorem Ua(x)(f d)(Q):(kb [] [] 81 [.agg (eD x),.int .i64 f,.int .i64 d] Q)=(ah (decide (f=1)) (Q (AV.int .i64 x.t)) (ah (decide (f=2)) (Q (AV.int .i64 x.v)) (ah (decide (f=3)) (Q (AV.int .i64 x.w)) (ah (decide (f=4)) (Q (AV.int .i64 x.o)) (ah (decide (f=5)) (Q (AV.int .i64 x.p)) (ah (decide (f=6)) (Q (AV.int .i64 x.d)) (ah (decide (f=7)) (Q (AV.int .i64 x.b)) (ah (decide (f=8)) (Q (AV.int .i64 d)) (Q (AV.int .i64 0)))))))))):=U
end Go.Sx
end
section
set_option maxRecDepth 1000000
namespace Go.Sx
open Go
def gJ(x:ay)(f d:Int):Int:=if f=1 then x.t else if f=2 then x.v else if f=3 then x.w else if f=4 then x.o else if f=5 then x.p else if f=6 then x.d else if f=7 then x.b else if f=8 then d else 0
theorem Ub(x:ay)(f d:Int):af PP II 81 [.agg (eD x),.int .i64 f,.int .i64 d] (AH.blank 12) (.ret (.int .i64 (gJ x f d)) (AH.blank 12)):=by
 refine bY (ks:=[]) (T:=[]) (λσ=>⟨rfl,rfl⟩) ?_
 rw[Ua]
 unfold gJ
 refine Zg (λh=>by rw[if_pos h]) λa=>?_
 rw[if_neg a]
 refine Zg (λh=>by rw[if_pos h]) λa=>?_
 rw[if_neg a]
 refine Zg (λh=>by rw[if_pos h]) λa=>?_
 rw[if_neg a]
 refine Zg (λh=>by rw[if_pos h]) λa=>?_
 rw[if_neg a]
 refine Zg (λh=>by rw[if_pos h]) λa=>?_
 rw[if_neg a]
 refine Zg (λh=>by rw[if_pos h]) λa=>?_
 rw[if_neg a]
 refine Zg (λh=>by rw[if_pos h]) λa=>?_
 rw[if_neg a]
 refine Zg (λh=>by rw[if_pos h]) λa=>?_
 rw[if_neg a]
noncomputable def jr:aC PP II:=aC.pure 81
 (λX args a=>match args with
  |[.agg cs,.int .i64 f,.int .i64 d]=>match OQ cs with
   |some x=>a (.int .i64 (gJ x f d))
   |none=>X.fail
  |_=>X.fail)
 λX sem hX args a h=>by
  split at h
  ·rename_i cs f d
   split at h
   ·rename_i x hx
    have e:=fK hx
    subst e
    exact⟨_,h,λ_=>rfl,λ_=>rfl,Ub x f d⟩
   ·exact zR
  ·exact zR
noncomputable def Jh(b:Bool):GE:=.cond b (.one (.r {t:=Tr.ofList [(4,.bool true)],nt:=35,H:=AH.blank 14,df:=[]})) (.one (.x 0 {t:=.e,nt:=35,H:=AH.blank 14,df:=[]}))
end Go.Sx
end
section
set_option maxRecDepth 1000000
namespace Go.Sx
open Go
def aA(j:Nat):List AV:=match j with|0=>[.str [],.aB]|1=>[.str [61],.fn 331 [] []]|2=>[.str [33,61],.fn 332 [] []]|3=>[.str [60],.fn 333 [] []]|_=>[.str [62,61],.fn 334 [] []]
def OZ:List (AV×AV):=(.any,.any)::[(.int .i64 1,.agg [.fn 335 [] []]),(.int .i64 2,.agg [.fn 337 [] []]),(.int .i64 3,.agg [.fn 339 [] []]),(.int .i64 4,.agg [.fn 340 [] []]),(.int .i64 5,.agg [.fn 341 [] []])]
end Go.Sx
end
