/- The proof of a statement of the seat, part 24. -/
import Derived.Test.YtoijalagmmgkbaaGreatDoorX22
import Derived.Test.YtoijalagmmgkbaaGreatDoorX23
import Derived.Test.YtoijalagmmgkbaaGreatDoorX20
set_option linter.all false
set_option linter.defProp false
set_option maxRecDepth 1000000
namespace Go.Sx
open Go
open Decidable renaming decide->B
open Int renaming ofNat->z,natCast_nonneg->k_,le_refl->m_
open Option renaming none->a_,some->d_
open AV renaming bool->b_,int->e_,ptr->g_,az->i_
open Go.IntKind renaming i64->c_
open List renaming beq->f_,range->j_
noncomputable section
def s8{n f}(h:aI 3 n f=true):aI 3 n (au (bG f))=true:=by
 refine List.all_eq_true.2 λj a=>?_
 have:=c7 h (List.mem_range.1 a)
 rw[(nP this).1]at this
 exact this
def GU:aC PP II:=aC.pure 36
 (λX args a=>match args with
  |[.int c_ agg,.az n 3 f,.int c_ g,.int c_ top]=>X.ak (aI 3 n f&&aN c_ agg&&aN c_ g&&aN c_ top) (a (.agg (aY (cJ agg n (bG f) g top))))
  |_=>X.fail)
 λX sem hX args a h=>by
  split at h
  ·rename_i agg n f g top
   obtain⟨b,d⟩:=hX.ak _ _ h
   simp only[bf]at b
   obtain⟨⟨⟨c,e⟩,j⟩,k⟩:=b
   refine⟨_,d,λ_=>rfl,λ_=>rfl,(MQ agg n (bG f) g top (s8 c) e j k).dq ⟨⟨rfl,rfl⟩,⟨rfl,rfl,λi hi=>?_⟩,⟨rfl,rfl⟩,⟨rfl,rfl⟩,trivial⟩⟩
   rw[(nP (c7 c hi)).1];exact jq (bG f) _ i
  ·exact zR
def oa(nu de:List UInt8):Bool:=(j_ 11).any λk=>B (nu=wy k)&&B (de=wz k)
def XQ:aC PP II:=aC.pure 136
 (λX args b=>match args with
  |[.agg [.str nu,.str de]]=>X.ak (oa nu de) (b (.bool true))
  |_=>X.fail)
 λX sem hX args b h=>by
  split at h
  ·rename_i nu de
   obtain⟨c,d⟩:=hX.ak _ _ h
   obtain⟨k,e,a⟩:=List.any_eq_true.1 c
   simp only[bf,bn]at a
   have:=Qk (k:=k) Y
   rw[a.1,a.2]
   exact⟨_,d,λ_=>rfl,λ_=>rfl,this⟩
  ·exact zR
def I5(q:Query)(i:Int):St:={t:=Tr.ofList [(1,.ptr 12 0 0 0),(35,.az q.nw 3 (au q.C)),(36,.int c_ q.nw),(37,.int c_ i)],nt:=121,H:={n:=13,t:=Tr.ofList [(12,.cells (aY q) (.ty 32))]},df:=[]}
def I6(q:Query)(i:Int):St:={t:=Tr.ofList [(1,.ptr 12 0 0 0),(59,.az q.ng 1 (aR q.G)),(60,.int c_ q.ng),(61,.int c_ i)],nt:=121,H:={n:=13,t:=Tr.ofList [(12,.cells (aY q) (.ty 32))]},df:=[]}
def Nb(q:Query)(i:Int):GE:=.one (.x 0 (I5 q i))
def ES(q:Query)(i:Int):GE:=.one (.x 2 (I6 q i))
def Cr(q)(i b)(Q):(kr [] [] 80 4001 13 (I5 q) (λ_=>Nb q b) (λi=>i+1) Q i)=(ah (B (i<z q.nw)) (aa (B (0<=i)&&B (i<z q.nw)) (ah (B (q.C i.toNat 0>=1)) (ah (!decide (q.C i.toNat 0<=8)) False (ah (B (q.C i.toNat 1>=1)) (ah (!decide (q.C i.toNat 1<=4)) False (ah (B (q.C i.toNat 2>=(-1:Int))) (ah (!decide (q.C i.toNat 2<=4398046511104)) False (aa (aN c_ (i+1)) (zyN q.nw (zyR q.nw (au q.C) (zyN q.ng (zyR q.ng (aR q.G) (zyI q.a (zyI q.fl (zyB q.nu (zyB q.de (zyI q.top (zyN q.nw (zyR q.nw (au q.C) (zyI (i+1) (zyI (z q.nw) Q))))))))))))))) False)) False)) False)) (zyN q.nw (zyR q.nw (au q.C) (zyN q.ng (zyR q.ng (aR q.G) (zyI q.a (zyI q.fl (zyB q.nu (zyB q.de (zyI q.top (zyN q.nw (zyR q.nw (au q.C) (aH i b (zyI (z q.nw) True)))))))))))))):=U
def Cs(q)(i c)(Q):(kr [] [] 80 10001 13 (I6 q) (λ_=>ES q c) (λi=>i+1) Q i)=(let b:=(aa (aN c_ (i+1)) (zyN q.nw (zyR q.nw (au q.C) (zyN q.ng (zyR q.ng (aR q.G) (zyI q.a (zyI q.fl (zyB q.nu (zyB q.de (zyI q.top (zyN q.ng (zyR q.ng (aR q.G) (zyI (i+1) (zyI (z q.ng) Q))))))))))))));(ah (B (i<z q.ng)) (aa (B (0<=i)&&B (i<z q.ng)) (ah (B (q.G i.toNat>=1)) (ah (!decide (q.G i.toNat<=6)) False (ah (B (i>0)) (aa (aN c_ (i-1)) (aa (B (0<=i-1)&&B (i-1<z q.ng)) (ah (B (q.G i.toNat<=q.G (Int.toNat (i-1)))) False b))) b)) False)) (zyN q.nw (zyR q.nw (au q.C) (zyN q.ng (zyR q.ng (aR q.G) (zyI q.a (zyI q.fl (zyB q.nu (zyB q.de (zyI q.top (zyN q.ng (zyR q.ng (aR q.G) (aH i c (zyI (z q.ng) True))))))))))))))):=U
def ET(q)(d f)(Q):(kb [XQ] [(4001,13,I5 q 0,Nb q d),(10001,13,I6 q 0,ES q f)] 80 [.agg (aY q)] Q)=(let c:=(zyR q.nw (au q.C) (zyN q.ng (zyR q.ng (aR q.G) (zyI q.a (zyI q.fl (zyB q.nu (zyB q.de (zyI q.top (zyN q.ng (zyR q.ng (aR q.G) (zyI (z q.ng) (ah (B (q.a=1)) (ah (B (q.fl=0)) (Q (b_ (f_ q.nu []&&(f_ q.de []&&true)))) (Q (b_ false))) (ah (B (q.a=5)) (ah (B (q.fl>=7)) (ah (B (q.fl<=8)) (aa (oa q.nu q.de) (Q (b_ true))) (Q (b_ false))) (Q (b_ false))) (ah (B (q.a>=2)) (ah (B (q.a<=4)) (ah (B (q.fl>=7)) (ah (B (q.fl<=8)) (Q (b_ (f_ q.nu []&&(f_ q.de []&&true)))) (Q (b_ false))) (Q (b_ false))) (Q (b_ false))) (Q (b_ false))))))))))))))));let b:=(Zv.cells (aY q) (Access.ty 32));(ah (B (z q.nw>6)) (Q (b_ false)) (ah (B (z q.ng>3)) (Q (b_ false)) (ah (B (q.top>=0)) (ah (!decide (q.top<=100)) (Q (b_ false)) (ah (B (q.top>0)) (ah (B (z q.ng=0)) (Q (b_ false)) (Zu PP II false (aD II 80 4001) 13 {t:=.n (.n (.n .e a_ (.n (.n (.n .e (d_ (i_ q.nw 3 (au q.C))) .e) a_ .e) a_ .e)) (d_ (g_ 12 0 0 0)) (.n .e a_ (.n (.n (.n .e (d_ (e_ c_ 0)) .e) a_ .e) a_ .e))) a_ (.n (.n .e a_ (.n (.n (.n .e (d_ (e_ c_ (z q.nw))) .e) a_ .e) a_ .e)) a_ .e),nt:=121,H:={n:=13,t:=.n .e a_ (.n (.n .e a_ (.n .e (d_ b) .e)) a_ .e)},df:=[]} (GE.one (aQ.x 0 {t:=.n (.n (.n .e a_ (.n (.n (.n .e (d_ (i_ q.nw 3 (au q.C))) .e) a_ .e) a_ .e)) (d_ (g_ 12 0 0 0)) (.n .e a_ (.n (.n (.n .e (d_ (e_ c_ d)) .e) a_ .e) a_ .e))) a_ (.n (.n .e a_ (.n (.n (.n .e (d_ (e_ c_ (z q.nw))) .e) a_ .e) a_ .e)) a_ .e),nt:=121,H:={n:=13,t:=.n .e a_ (.n (.n .e a_ (.n .e (d_ b) .e)) a_ .e)},df:=[]}))/\zyN q.nw (zyR q.nw (au q.C) (zyN q.ng (zyR q.ng (aR q.G) (zyI q.a (zyI q.fl (zyB q.nu (zyB q.de (zyI q.top (zyN q.nw (zyR q.nw (au q.C) (zyI (z q.nw) (Zu PP II false (aD II 80 10001) 13 {t:=.n (.n (.n .e a_ (.n .e a_ (.n .e a_ (.n .e (d_ (i_ q.ng 1 (aR q.G))) .e)))) (d_ (g_ 12 0 0 0)) (.n .e a_ (.n .e a_ (.n .e a_ (.n .e (d_ (e_ c_ 0)) .e))))) a_ (.n (.n .e a_ (.n .e a_ (.n .e a_ (.n .e (d_ (e_ c_ (z q.ng))) .e)))) a_ .e),nt:=121,H:={n:=13,t:=.n .e a_ (.n (.n .e a_ (.n .e (d_ b) .e)) a_ .e)},df:=[]} (GE.one (aQ.x 2 {t:=.n (.n (.n .e a_ (.n .e a_ (.n .e a_ (.n .e (d_ (i_ q.ng 1 (aR q.G))) .e)))) (d_ (g_ 12 0 0 0)) (.n .e a_ (.n .e a_ (.n .e a_ (.n .e (d_ (e_ c_ f)) .e))))) a_ (.n (.n .e a_ (.n .e a_ (.n .e a_ (.n .e (d_ (e_ c_ (z q.ng))) .e)))) a_ .e),nt:=121,H:={n:=13,t:=.n .e a_ (.n (.n .e a_ (.n .e (d_ b) .e)) a_ .e)},df:=[]}))/\zyN q.nw c)))))))))))))) (Zu PP II false (aD II 80 4001) 13 {t:=.n (.n (.n .e a_ (.n (.n (.n .e (d_ (i_ q.nw 3 (au q.C))) .e) a_ .e) a_ .e)) (d_ (g_ 12 0 0 0)) (.n .e a_ (.n (.n (.n .e (d_ (e_ c_ 0)) .e) a_ .e) a_ .e))) a_ (.n (.n .e a_ (.n (.n (.n .e (d_ (e_ c_ (z q.nw))) .e) a_ .e) a_ .e)) a_ .e),nt:=121,H:={n:=13,t:=.n .e a_ (.n (.n .e a_ (.n .e (d_ b) .e)) a_ .e)},df:=[]} (GE.one (aQ.x 0 {t:=.n (.n (.n .e a_ (.n (.n (.n .e (d_ (i_ q.nw 3 (au q.C))) .e) a_ .e) a_ .e)) (d_ (g_ 12 0 0 0)) (.n .e a_ (.n (.n (.n .e (d_ (e_ c_ d)) .e) a_ .e) a_ .e))) a_ (.n (.n .e a_ (.n (.n (.n .e (d_ (e_ c_ (z q.nw))) .e) a_ .e) a_ .e)) a_ .e),nt:=121,H:={n:=13,t:=.n .e a_ (.n (.n .e a_ (.n .e (d_ b) .e)) a_ .e)},df:=[]}))/\zyN q.nw (zyR q.nw (au q.C) (zyN q.ng (zyR q.ng (aR q.G) (zyI q.a (zyI q.fl (zyB q.nu (zyB q.de (zyI q.top (zyN q.nw (zyR q.nw (au q.C) (zyI (z q.nw) (Zu PP II false (aD II 80 10001) 13 {t:=.n (.n (.n .e a_ (.n .e a_ (.n .e a_ (.n .e (d_ (i_ q.ng 1 (aR q.G))) .e)))) (d_ (g_ 12 0 0 0)) (.n .e a_ (.n .e a_ (.n .e a_ (.n .e (d_ (e_ c_ 0)) .e))))) a_ (.n (.n .e a_ (.n .e a_ (.n .e a_ (.n .e (d_ (e_ c_ (z q.ng))) .e)))) a_ .e),nt:=121,H:={n:=13,t:=.n .e a_ (.n (.n .e a_ (.n .e (d_ b) .e)) a_ .e)},df:=[]} (GE.one (aQ.x 2 {t:=.n (.n (.n .e a_ (.n .e a_ (.n .e a_ (.n .e (d_ (i_ q.ng 1 (aR q.G))) .e)))) (d_ (g_ 12 0 0 0)) (.n .e a_ (.n .e a_ (.n .e a_ (.n .e (d_ (e_ c_ f)) .e))))) a_ (.n (.n .e a_ (.n .e a_ (.n .e a_ (.n .e (d_ (e_ c_ (z q.ng))) .e)))) a_ .e),nt:=121,H:={n:=13,t:=.n .e a_ (.n (.n .e a_ (.n .e (d_ b) .e)) a_ .e)},df:=[]}))/\zyN q.nw c))))))))))))))) (Q (b_ false)))))):=U
def EU(q:Query):Bool:=(j_ q.nw).all λj=>B (1<=q.C j 0)&&B (q.C j 0<=8)&&B (1<=q.C j 1)&&B (q.C j 1<=4)&&B (-1<=q.C j 2)&&B (q.C j 2<=4398046511104)
def AG(q:Query):Bool:=(j_ q.ng).all λj=>B (1<=q.G j)&&B (q.G j<=6)&&(Nat.beq j 0||B (q.G (j-1)<q.G j))
def WL(q:Query):Bool:=B (0<=q.top)&&B (q.top<=100)&&(B (q.top<=0)||Nat.blt 0 q.ng)
def EV(q:Query):Bool:=(B (q.a=1)&&B (q.fl=0)&&B (q.nu=[])&&B (q.de=[]))||(B (q.a=5)&&(B (q.fl=7)||B (q.fl=8))&&oa q.nu q.de) ||
 (B (2<=q.a)&&B (q.a<=4)&&(B (q.fl=7)||B (q.fl=8))&&B (q.nu=[])&&B (q.de=[]))
def eU(q:Query):Bool:=B (q.nw<=6)&&B (q.ng<=3)&&EU q&&AG q&&WL q&&EV q
def wA{p}[Decidable p]{x y}(h:p)(k:y):ah (!decide p) x y:=by rw[bW h];exact k
def yO{q}(h:EU q=true){j}(a:j<q.nw):(1<=q.C j 0/\q.C j 0<=8)/\(1<=q.C j 1/\q.C j 1<=4)/\(-1<=q.C j 2/\q.C j 2<=4398046511104):=by
 have:=List.all_eq_true.1 h j (List.mem_range.2 a)
 grind
def EW{q}(h:AG q=true){j}(a:j<q.ng):(1<=q.G j/\q.G j<=6)/\(j=0∨q.G (j-1)<q.G j):=by
 have:=List.all_eq_true.1 h j (List.mem_range.2 a)
 simp_all
def Ct(q)(g:q.nw<=6)(h:EU q=true):Zu PP II false (aD II 80 4001) 13 (I5 q 0) (Nb q q.nw):=
 Zu.of (ι:=Int) iw [] (bm PP II []) 1000 13 (λi=>0<=i/\i<=q.nw) (I5 q) (λ_=>Nb q q.nw) (λi=>(q.nw-i).toNat) (λi=>i+1) 0 A ⟨m_ _,k_ _⟩ λi hi=>by
  refine(Cr q i q.nw _).mpr ?_
  have e:z q.nw=(q.nw:Int):=rfl
  have same:∀{x y:Int}{Z:Prop},x=y->Z->ax (Query.nw q) (Query.nw q) (an (Query.nw q) (au (Query.C q)) (au (Query.C q))/\ax (Query.ng q) (Query.ng q) (an (Query.ng q) (aR (Query.G q)) (aR (Query.G q))/\aH (Query.a q) (Query.a q) (aH (Query.fl q) (Query.fl q) (bI (Query.nu q) (Query.nu q) (bI (Query.de q) (Query.de q) (aH (Query.top q) (Query.top q)
    (ax (Query.nw q) (Query.nw q) (an (Query.nw q) (au (Query.C q)) (au (Query.C q))/\aH x y (aH (z (Query.nw q)) (z (Query.nw q)) Z))))))))):=λh b=>
   YG A ⟨bC _ _,YG A ⟨bO _ _,Zf A (Zf A (Zi A (Zi A (Zf A (YG A ⟨bC _ _,Zf h (Zf A b)⟩)))))⟩⟩
  refine Zg (λd=>?_) λf=>Y
  have c:=yO h (j:=i.toNat) O
  refine cC _ _ Y ?_
  refine Zg (λ_=>wA c.1.2 (Zg (λ_=>wA c.2.1.2 (Zg (λ_=>wA c.2.2.2 (cC _ _ (aq O O) Y)) O)) O)) O
def Cu(q)(n:q.ng<=3)(h:AG q=true):Zu PP II false (aD II 80 10001) 13 (I6 q 0) (ES q q.ng):=
 Zu.of (ι:=Int) iw [] (bm PP II []) 1000 13 (λi=>0<=i/\i<=q.ng) (I6 q) (λ_=>ES q q.ng) (λi=>(q.ng-i).toNat) (λi=>i+1) 0 A ⟨m_ _,k_ _⟩ λi hi=>by
  refine(Cs q i q.ng _).mpr ?_
  have e:z q.ng=(q.ng:Int):=rfl
  have same:∀{x y:Int}{Z:Prop},x=y->Z->ax (Query.nw q) (Query.nw q) (an (Query.nw q) (au (Query.C q)) (au (Query.C q))/\ax (Query.ng q) (Query.ng q) (an (Query.ng q) (aR (Query.G q)) (aR (Query.G q))/\aH (Query.a q) (Query.a q) (aH (Query.fl q) (Query.fl q) (bI (Query.nu q) (Query.nu q) (bI (Query.de q) (Query.de q) (aH (Query.top q) (Query.top q)
    (ax (Query.ng q) (Query.ng q) (an (Query.ng q) (aR (Query.G q)) (aR (Query.G q))/\aH x y (aH (z (Query.ng q)) (z (Query.ng q)) Z))))))))):=λh b=>
   YG A ⟨bC _ _,YG A ⟨bO _ _,Zf A (Zf A (Zi A (Zi A (Zf A (YG A ⟨bO _ _,Zf h (Zf A b)⟩)))))⟩⟩
  refine Zg (λg=>?_) λk=>Y
  have c:=EW h (j:=i.toNat) O
  have d:aN c_ (i+1)=true:=aq O O
  have f:(0<=i+1/\i+1<=(q.ng:Int))/\((q.ng:Int)-(i+1)).toNat<((q.ng:Int)-i).toNat/\(ES q q.ng).pick=(ES q q.ng).pick:=Y
  refine cC _ _ Y ?_
  refine Zg (λ_=>wA c.1.2 (Zg (λl=>cC _ _ (aq O O) (cC _ _ Y (Zg (λm=>?_) λ_=>cC _ _ d (same A f)))) λl=>cC _ _ d (same A f))) O
  grind
def EX(q)(h:eU q=true):af PP II 80 [.agg (aY q)] (AH.blank 12) (.ret (.bool true) (AH.blank 12)):=by
 simp only[eU,bf,bn]at h
 obtain⟨⟨⟨⟨⟨g,i⟩,j⟩,k⟩,l⟩,f⟩:=h
 have m:=Ct q g j
 have n:=Cu q i k
 refine bY (ks:=[XQ]) (T:=[(4001,13,I5 q 0,Nb q q.nw),(10001,13,I6 q 0,ES q q.ng)]) (λ_=>rfl) ?_
 rw[ET]
 simp only[WL,bf,Bool.or_eq_true,bn,Nat.blt_eq]at l
 simp only[EV,bf,Bool.or_eq_true,bn]at f
 have c:∀{Z:Prop},Z->ax q.nw q.nw (an q.nw (au q.C) (au q.C)/\ax q.ng q.ng (an q.ng (aR q.G) (aR q.G)/\aH q.a q.a (aH q.fl q.fl (bI q.nu q.nu (bI q.de q.de (aH q.top q.top (ax q.nw q.nw (an q.nw (au q.C) (au q.C)/\aH (z q.nw) (z q.nw) Z)))))))):=λb=>
  YG A ⟨bC _ _,YG A ⟨bO _ _,Zf A (Zf A (Zi A (Zi A (Zf A (YG A ⟨bC _ _,Zf A b⟩)))))⟩⟩
 have d:∀{Z:Prop},Z->ax q.nw q.nw (an q.nw (au q.C) (au q.C)/\ax q.ng q.ng (an q.ng (aR q.G) (aR q.G)/\aH q.a q.a (aH q.fl q.fl (bI q.nu q.nu (bI q.de q.de (aH q.top q.top (ax q.ng q.ng (an q.ng (aR q.G) (aR q.G)/\aH (z q.ng) (z q.ng) Z)))))))):=λb=>
  YG A ⟨bC _ _,YG A ⟨bO _ _,Zf A (Zf A (Zi A (Zi A (Zf A (YG A ⟨bO _ _,Zf A b⟩)))))⟩⟩
 have p:z q.nw=(q.nw:Int):=rfl
 have r:z q.ng=(q.ng:Int):=rfl
 have o:ah (B (q.a=1)) (ah (B (q.fl=0)) (b_ (f_ q.nu []&&(f_ q.de []&&true))=b_ true) (b_ false=b_ true)) (ah (B (q.a=5)) (ah (B (q.fl>=7)) (ah (B (q.fl<=8)) (aa (oa q.nu q.de) (b_ true=b_ true)) (b_ false=b_ true)) (b_ false=b_ true)) (ah (B (q.a>=2)) (ah (B (q.a<=4)) (ah (B (q.fl>=7)) (ah (B (q.fl<=8)) (b_ (f_ q.nu []&&(f_ q.de []&&true))=b_ true) (b_ false=b_ true)) (b_ false=b_ true)) (b_ false=b_ true)) (b_ false=b_ true))):=by
  rcases f with(⟨⟨⟨g1,g2⟩,g3⟩,g4⟩|⟨⟨g1,g2⟩,g3⟩)|⟨⟨⟨⟨g1,g2⟩,g3⟩,g4⟩,g5⟩
  ·exact Zg (λ_=>Zg ZD λh=>absurd g2 h) λh=>absurd g1 h
  ·exact Zg (λh=>O) λ_=>Zg (λ_=>Zg (λ_=>Zg (λ_=>cC _ _ g3 A) λh=>O) λh=>O) λh=>absurd g1 h
  ·exact Zg (λh=>O) λ_=>Zg (λh=>O) λ_=>Zg (λ_=>Zg (λ_=>Zg (λ_=>Zg ZD λh=>O) λh=>O) λh=>O) λh=>O
 have e:=And.intro m (c (And.intro n (d o)))
 repeat' (first
  |exact e
  |refine Zg (λh=>?_) λh=>?_
  |exact wA O ?_
  |refine Zh (λh=>?_) λh=>?_
  |grind
  |omega)
def GV{cs}(h:oG 1 cs=true):cs=[.int c_ (bV cs 0)]:=by
 obtain⟨a,b⟩:=pC 1 cs h
 obtain⟨a0,c⟩:=b 0 O
 match cs,a with
 |[x],_=>
  grind
def nQ{nw ng f g a fl top nu de}(b:aI 3 nw f=true)(c:aI 1 ng g=true):
  bt.le (λl=>l) [.az nw 3 f,.az ng 1 g,.int c_ a,.int c_ fl,.str nu,.str de,.int c_ top] (aY ⟨nw,bG f,ng,λj=>bV (g j) 0,a,fl,nu,de,top⟩):=by
 refine⟨⟨rfl,rfl,λi hi=>?_⟩,⟨rfl,rfl,λi hi=>?_⟩,⟨rfl,rfl⟩,⟨rfl,rfl⟩,rfl,rfl,⟨rfl,rfl⟩,trivial⟩
 ·rw[(nP (c7 b hi)).1];exact jq (bG f) _ i
 ·rw[GV (c7 c hi)];exact pF (λj=>bV (g j) 0) _ i
def lQ:aC PP II:=aC.pure 80
 (λX args c=>match args with
  |[.agg [.az nw 3 f,.az ng 1 g,.int c_ a,.int c_ fl,.str nu,.str de,.int c_ top]]=>X.ak (aI 3 nw f&&aI 1 ng g) (X.ak (eU ⟨nw,bG f,ng,λj=>bV (g j) 0,a,fl,nu,de,top⟩) (c (.bool true)))
  |_=>X.fail)
 λX sem hX args c h=>by
  split at h
  ·obtain⟨b,d⟩:=hX.ak _ _ h
   obtain⟨e,i⟩:=hX.ak _ _ d
   rw[bf]at b
   exact⟨_,i,λ_=>rfl,λ_=>rfl,(EX _ e).dq ⟨nQ b.1 b.2,trivial⟩⟩
  ·exact zR
def oH(q):eU ⟨q.nw,bG (au q.C),q.ng,λj=>q.G j,q.a,q.fl,q.nu,q.de,q.top⟩=eU q:=rfl
def yP{n:Nat}{f:Nat->List AV}(h:aI 1 n f=true):aI 1 n (aR λj=>bV (f j) 0)=true:=by
 refine List.all_eq_true.2 λj a=>?_
 have:=c7 h (List.mem_range.1 a)
 rw[GV this]at this
 exact this
def I7(lo hi)(b)(Q):(kb [] [] 95 [.agg [.int c_ lo,.int c_ hi,.bool b]] Q)=(Q (b_ b)):=U
def T5(lo hi)(b)(Q):(kb [] [] 97 [.agg [.int c_ lo,.int c_ hi,.bool b]] Q)=(Q (e_ c_ lo)):=U
def Ql(lo hi)(b)(Q):(kb [] [] 100 [.agg [.int c_ lo,.int c_ hi,.bool b]] Q)=(Q (e_ c_ hi)):=U
def Nc(a b c d)(Q):(kp [j8] [] 98 [.agg [.str a,.str b],.agg [.str c,.str d]] Q)=(aa (bJ a b&&bJ c d) (Q (b_ (B (bw (Zt a) (Zt b) (Zt c) (Zt d)<(0:Int)))))):=U
def Nd(a b c d)(Q):(kp [j8] [] 101 [.agg [.str a,.str b],.agg [.str c,.str d]] Q)=(aa (bJ a b&&bJ c d) (Q (b_ (B (bw (Zt a) (Zt b) (Zt c) (Zt d)>(0:Int)))))):=U
def bR:aC PP II:=aC.pure 95
 (λX args a=>match args with
  |[.agg [.int c_ _,.int c_ _,.bool b]]=>a (.bool b)
  |_=>X.fail)
 λX sem hX args a h=>by
  split at h
  ·exact⟨_,h,λ_=>rfl,λ_=>rfl,bY (T:=[]) (ks:=[]) (λ_=>rfl) ((I7 _ _ _ _).mpr A)⟩
  ·exact zR
def mR:aC PP II:=aC.pure 97
 (λX args a=>match args with
  |[.agg [.int c_ lo,.int c_ _,.bool _]]=>a (.int c_ lo)
  |_=>X.fail)
 λX sem hX args a h=>by
  split at h
  ·exact⟨_,h,λ_=>rfl,λ_=>rfl,bY (T:=[]) (ks:=[]) (λ_=>⟨rfl,rfl⟩) ((T5 _ _ _ _).mpr A)⟩
  ·exact zR
def je:aC PP II:=aC.pure 100
 (λX args a=>match args with
  |[.agg [.int c_ _,.int c_ hi,.bool _]]=>a (.int c_ hi)
  |_=>X.fail)
 λX sem hX args a h=>by
  split at h
  ·exact⟨_,h,λ_=>rfl,λ_=>rfl,bY (T:=[]) (ks:=[]) (λ_=>⟨rfl,rfl⟩) ((Ql _ _ _ _).mpr A)⟩
  ·exact zR
def Nf{a b c d}(e:bJ a b=true)(f:bJ c d=true):af PP II 98 [.agg [.str a,.str b],.agg [.str c,.str d]] HP (.ret (.bool (B (bw (Zt a) (Zt b) (Zt c) (Zt d)<0))) HP):=
 kz (T:=[]) ((Nc a b c d _).mpr (Ze (by rw[e,f];rfl) λ_=>rfl))
def Ng{a b c d}(e:bJ a b=true)(f:bJ c d=true):af PP II 101 [.agg [.str a,.str b],.agg [.str c,.str d]] HP (.ret (.bool (B (bw (Zt a) (Zt b) (Zt c) (Zt d)>0))) HP):=
 kz (T:=[]) ((Nd a b c d _).mpr (Ze (by rw[e,f];rfl) λ_=>rfl))
def fO:aC PP II:=aC.l8 98
 (λX args f=>match args with
  |[.agg [.str a,.str b],.agg [.str c,.str d]]=>X.ak (bJ a b&&bJ c d) (f (.bool (B (bw (Zt a) (Zt b) (Zt c) (Zt d)<0))))
  |_=>X.fail)
 λX sem hX args f h=>by
  split at h
  ·obtain⟨e,g⟩:=hX.ak _ _ h
   simp only[bf]at e
   exact⟨_,g,λ_=>rfl,λ_=>rfl,Nf e.1 e.2⟩
  ·exact zR
def fP:aC PP II:=aC.l8 101
 (λX args f=>match args with
  |[.agg [.str a,.str b],.agg [.str c,.str d]]=>X.ak (bJ a b&&bJ c d) (f (.bool (B (bw (Zt a) (Zt b) (Zt c) (Zt d)>0))))
  |_=>X.fail)
 λX sem hX args f h=>by
  split at h
  ·obtain⟨e,g⟩:=hX.ak _ _ h
   simp only[bf]at e
   exact⟨_,g,λ_=>rfl,λ_=>rfl,Ng e.1 e.2⟩
  ·exact zR
end
end Go.Sx
