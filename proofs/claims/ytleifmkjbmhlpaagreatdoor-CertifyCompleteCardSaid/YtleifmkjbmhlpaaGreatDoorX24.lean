/- The proof of a statement of the seat, part 24. -/
import Derived.Test.YtleifmkjbmhlpaaGreatDoorX22
import Derived.Test.YtleifmkjbmhlpaaGreatDoorX23
import Derived.Test.YtleifmkjbmhlpaaGreatDoorX19
set_option linter.all false
set_option linter.defProp false
set_option maxRecDepth 1000000
namespace Go.Sx
open Go
open Decidable renaming decide->M
open Int renaming ofNat->z,natCast_nonneg->l_,le_refl->n_
open Option renaming none->a_,some->d_
open AV renaming bool->b_,int->e_,ptr->g_,ae->i_
open Go.IntKind renaming i64->c_
open List renaming beq->f_,range->j_
noncomputable section
def sg{n f}(h:ar 3 n f=true):ar 3 n (av (aF f))=true:=by
 refine List.all_eq_true.2 λj a=>?_
 have:=dQ h (List.mem_range.1 a);rw[(pY this).1]at this;exact this
def KV:ax PP II:=ax.pure 30
 (λX args a=>match args with
  |[.int c_ agg,.ae n 3 f,.int c_ g,.int c_ top]=>X.ag (ar 3 n f&&aJ c_ agg&&aJ c_ g&&aJ c_ top) (a (.agg (aZ (bU agg n (aF f) g top))))
  |_=>X.fail)
 λX sem hX args a h=>by
  split at h
  ·rename_i agg n f g top;obtain⟨b,c⟩:=hX.ag _ _ h;simp only[ba]at b;obtain⟨⟨⟨h3,h4⟩,d⟩,e⟩:=b;refine⟨_,c,λ_=>rfl,λ_=>rfl,(RY agg n (aF f) g top (sg h3) h4 d e).cS ⟨⟨rfl,rfl⟩,⟨rfl,rfl,λi hi=>?_⟩,⟨rfl,rfl⟩,⟨rfl,rfl⟩,trivial⟩⟩;rw[(pY (dQ h3 hi)).1];exact ku (aF f) _ i
  ·exact zR
def qq(nu de:List UInt8):Bool:=(j_ 11).any λk=>M (nu=zj k)&&M (de=zk k)
def WY:ax PP II:=ax.pure 75
 (λX args b=>match args with
  |[.agg [.str nu,.str de]]=>X.ag (qq nu de) (b (.bool true))
  |_=>X.fail)
 λX sem hX args b h=>by
  split at h
  ·rename_i nu de;obtain⟨c,d⟩:=hX.ag _ _ h;obtain⟨k,e,a⟩:=List.any_eq_true.1 c;simp only[ba,bl]at a;have:=Vu (k:=k) Y;rw[a.1,a.2];exact⟨_,d,λ_=>rfl,λ_=>rfl,this⟩
  ·exact zR
def Nx(q:Query)(i:Int):St:={t:=Tr.ofList [(1,.ptr 12 0 0 0),(35,.ae q.nw 3 (av q.C)),(36,.int c_ q.nw),(37,.int c_ i)],nt:=121,H:={n:=13,t:=Tr.ofList [(12,.cells (aZ q) (.ty 34))]},df:=[]}
def Ny(q:Query)(i:Int):St:={t:=Tr.ofList [(1,.ptr 12 0 0 0),(59,.ae q.ng 1 (aN q.G)),(60,.int c_ q.ng),(61,.int c_ i)],nt:=121,H:={n:=13,t:=Tr.ofList [(12,.cells (aZ q) (.ty 34))]},df:=[]}
def Sk(q:Query)(i:Int):GE:=.one (.x 0 (Nx q i))
def IR(q:Query)(i:Int):GE:=.one (.x 2 (Ny q i))
def FG(q)(i b)(Q):(kr [] [] 37 4001 13 (Nx q) (λ_=>Sk q b) (λi=>i+1) Q i)=(ak (M (i<z q.nw)) (B (M (0<=i)&&M (i<z q.nw)) (ak (M (q.C i.toNat 0>=1)) (ak (!decide (q.C i.toNat 0<=8)) False (ak (M (q.C i.toNat 1>=1)) (ak (!decide (q.C i.toNat 1<=4)) False (ak (M (q.C i.toNat 2>=(-1:Int))) (ak (!decide (q.C i.toNat 2<=4398046511104)) False (B (aJ c_ (i+1)) (zyN q.nw (zyR q.nw (av q.C) (zyN q.ng (zyR q.ng (aN q.G) (zyI q.a (zyI q.fl (zyB q.nu (zyB q.de (zyI q.top (zyN q.nw (zyR q.nw (av q.C) (zyI (i+1) (zyI (z q.nw) Q))))))))))))))) False)) False)) False)) (zyN q.nw (zyR q.nw (av q.C) (zyN q.ng (zyR q.ng (aN q.G) (zyI q.a (zyI q.fl (zyB q.nu (zyB q.de (zyI q.top (zyN q.nw (zyR q.nw (av q.C) (aS i b (zyI (z q.nw) True)))))))))))))):=U
def FH(q)(i c)(Q):(kr [] [] 37 10001 13 (Ny q) (λ_=>IR q c) (λi=>i+1) Q i)=(let b:=(B (aJ c_ (i+1)) (zyN q.nw (zyR q.nw (av q.C) (zyN q.ng (zyR q.ng (aN q.G) (zyI q.a (zyI q.fl (zyB q.nu (zyB q.de (zyI q.top (zyN q.ng (zyR q.ng (aN q.G) (zyI (i+1) (zyI (z q.ng) Q))))))))))))));(ak (M (i<z q.ng)) (B (M (0<=i)&&M (i<z q.ng)) (ak (M (q.G i.toNat>=1)) (ak (!decide (q.G i.toNat<=6)) False (ak (M (i>0)) (B (aJ c_ (i-1)) (B (M (0<=i-1)&&M (i-1<z q.ng)) (ak (M (q.G i.toNat<=q.G (Int.toNat (i-1)))) False b))) b)) False)) (zyN q.nw (zyR q.nw (av q.C) (zyN q.ng (zyR q.ng (aN q.G) (zyI q.a (zyI q.fl (zyB q.nu (zyB q.de (zyI q.top (zyN q.ng (zyR q.ng (aN q.G) (aS i c (zyI (z q.ng) True))))))))))))))):=U
def IS(q)(d f)(Q):(kb [WY] [(4001,13,Nx q 0,Sk q d),(10001,13,Ny q 0,IR q f)] 37 [.agg (aZ q)] Q)=(let c:=(zyR q.nw (av q.C) (zyN q.ng (zyR q.ng (aN q.G) (zyI q.a (zyI q.fl (zyB q.nu (zyB q.de (zyI q.top (zyN q.ng (zyR q.ng (aN q.G) (zyI (z q.ng) (ak (M (q.a=1)) (ak (M (q.fl=0)) (Q (b_ (f_ q.nu []&&(f_ q.de []&&true)))) (Q (b_ false))) (ak (M (q.a=5)) (ak (M (q.fl>=7)) (ak (M (q.fl<=8)) (B (qq q.nu q.de) (Q (b_ true))) (Q (b_ false))) (Q (b_ false))) (ak (M (q.a>=2)) (ak (M (q.a<=4)) (ak (M (q.fl>=7)) (ak (M (q.fl<=8)) (Q (b_ (f_ q.nu []&&(f_ q.de []&&true)))) (Q (b_ false))) (Q (b_ false))) (Q (b_ false))) (Q (b_ false))))))))))))))));let b:=(aae.cells (aZ q) (Access.ty 34));(ak (M (z q.nw>6)) (Q (b_ false)) (ak (M (z q.ng>3)) (Q (b_ false)) (ak (M (q.top>=0)) (ak (!decide (q.top<=100)) (Q (b_ false)) (ak (M (q.top>0)) (ak (M (z q.ng=0)) (Q (b_ false)) (ay PP II false (az II 37 4001) 13 {t:=.n (.n (.n .e a_ (.n (.n (.n .e (d_ (i_ q.nw 3 (av q.C))) .e) a_ .e) a_ .e)) (d_ (g_ 12 0 0 0)) (.n .e a_ (.n (.n (.n .e (d_ (e_ c_ 0)) .e) a_ .e) a_ .e))) a_ (.n (.n .e a_ (.n (.n (.n .e (d_ (e_ c_ (z q.nw))) .e) a_ .e) a_ .e)) a_ .e),nt:=121,H:={n:=13,t:=.n .e a_ (.n (.n .e a_ (.n .e (d_ b) .e)) a_ .e)},df:=[]} (GE.one (aK.x 0 {t:=.n (.n (.n .e a_ (.n (.n (.n .e (d_ (i_ q.nw 3 (av q.C))) .e) a_ .e) a_ .e)) (d_ (g_ 12 0 0 0)) (.n .e a_ (.n (.n (.n .e (d_ (e_ c_ d)) .e) a_ .e) a_ .e))) a_ (.n (.n .e a_ (.n (.n (.n .e (d_ (e_ c_ (z q.nw))) .e) a_ .e) a_ .e)) a_ .e),nt:=121,H:={n:=13,t:=.n .e a_ (.n (.n .e a_ (.n .e (d_ b) .e)) a_ .e)},df:=[]}))/\zyN q.nw (zyR q.nw (av q.C) (zyN q.ng (zyR q.ng (aN q.G) (zyI q.a (zyI q.fl (zyB q.nu (zyB q.de (zyI q.top (zyN q.nw (zyR q.nw (av q.C) (zyI (z q.nw) (ay PP II false (az II 37 10001) 13 {t:=.n (.n (.n .e a_ (.n .e a_ (.n .e a_ (.n .e (d_ (i_ q.ng 1 (aN q.G))) .e)))) (d_ (g_ 12 0 0 0)) (.n .e a_ (.n .e a_ (.n .e a_ (.n .e (d_ (e_ c_ 0)) .e))))) a_ (.n (.n .e a_ (.n .e a_ (.n .e a_ (.n .e (d_ (e_ c_ (z q.ng))) .e)))) a_ .e),nt:=121,H:={n:=13,t:=.n .e a_ (.n (.n .e a_ (.n .e (d_ b) .e)) a_ .e)},df:=[]} (GE.one (aK.x 2 {t:=.n (.n (.n .e a_ (.n .e a_ (.n .e a_ (.n .e (d_ (i_ q.ng 1 (aN q.G))) .e)))) (d_ (g_ 12 0 0 0)) (.n .e a_ (.n .e a_ (.n .e a_ (.n .e (d_ (e_ c_ f)) .e))))) a_ (.n (.n .e a_ (.n .e a_ (.n .e a_ (.n .e (d_ (e_ c_ (z q.ng))) .e)))) a_ .e),nt:=121,H:={n:=13,t:=.n .e a_ (.n (.n .e a_ (.n .e (d_ b) .e)) a_ .e)},df:=[]}))/\zyN q.nw c)))))))))))))) (ay PP II false (az II 37 4001) 13 {t:=.n (.n (.n .e a_ (.n (.n (.n .e (d_ (i_ q.nw 3 (av q.C))) .e) a_ .e) a_ .e)) (d_ (g_ 12 0 0 0)) (.n .e a_ (.n (.n (.n .e (d_ (e_ c_ 0)) .e) a_ .e) a_ .e))) a_ (.n (.n .e a_ (.n (.n (.n .e (d_ (e_ c_ (z q.nw))) .e) a_ .e) a_ .e)) a_ .e),nt:=121,H:={n:=13,t:=.n .e a_ (.n (.n .e a_ (.n .e (d_ b) .e)) a_ .e)},df:=[]} (GE.one (aK.x 0 {t:=.n (.n (.n .e a_ (.n (.n (.n .e (d_ (i_ q.nw 3 (av q.C))) .e) a_ .e) a_ .e)) (d_ (g_ 12 0 0 0)) (.n .e a_ (.n (.n (.n .e (d_ (e_ c_ d)) .e) a_ .e) a_ .e))) a_ (.n (.n .e a_ (.n (.n (.n .e (d_ (e_ c_ (z q.nw))) .e) a_ .e) a_ .e)) a_ .e),nt:=121,H:={n:=13,t:=.n .e a_ (.n (.n .e a_ (.n .e (d_ b) .e)) a_ .e)},df:=[]}))/\zyN q.nw (zyR q.nw (av q.C) (zyN q.ng (zyR q.ng (aN q.G) (zyI q.a (zyI q.fl (zyB q.nu (zyB q.de (zyI q.top (zyN q.nw (zyR q.nw (av q.C) (zyI (z q.nw) (ay PP II false (az II 37 10001) 13 {t:=.n (.n (.n .e a_ (.n .e a_ (.n .e a_ (.n .e (d_ (i_ q.ng 1 (aN q.G))) .e)))) (d_ (g_ 12 0 0 0)) (.n .e a_ (.n .e a_ (.n .e a_ (.n .e (d_ (e_ c_ 0)) .e))))) a_ (.n (.n .e a_ (.n .e a_ (.n .e a_ (.n .e (d_ (e_ c_ (z q.ng))) .e)))) a_ .e),nt:=121,H:={n:=13,t:=.n .e a_ (.n (.n .e a_ (.n .e (d_ b) .e)) a_ .e)},df:=[]} (GE.one (aK.x 2 {t:=.n (.n (.n .e a_ (.n .e a_ (.n .e a_ (.n .e (d_ (i_ q.ng 1 (aN q.G))) .e)))) (d_ (g_ 12 0 0 0)) (.n .e a_ (.n .e a_ (.n .e a_ (.n .e (d_ (e_ c_ f)) .e))))) a_ (.n (.n .e a_ (.n .e a_ (.n .e a_ (.n .e (d_ (e_ c_ (z q.ng))) .e)))) a_ .e),nt:=121,H:={n:=13,t:=.n .e a_ (.n (.n .e a_ (.n .e (d_ b) .e)) a_ .e)},df:=[]}))/\zyN q.nw c))))))))))))))) (Q (b_ false)))))):=U
def IT(q:Query):Bool:=(j_ q.nw).all λj=>M (1<=q.C j 0)&&M (q.C j 0<=8)&&M (1<=q.C j 1)&&M (q.C j 1<=4)&&M (-1<=q.C j 2)&&M (q.C j 2<=4398046511104)
def DF(q:Query):Bool:=(j_ q.ng).all λj=>M (1<=q.G j)&&M (q.G j<=6)&&(Nat.beq j 0||M (q.G (j-1)<q.G j))
def aas(q:Query):Bool:=M (0<=q.top)&&M (q.top<=100)&&(M (q.top<=0)||Nat.blt 0 q.ng)
def Nz(q:Query):Bool:=(M (q.a=1)&&M (q.fl=0)&&M (q.nu=[])&&M (q.de=[]))||(M (q.a=5)&&(M (q.fl=7)||M (q.fl=8))&&qq q.nu q.de) ||
 (M (2<=q.a)&&M (q.a<=4)&&(M (q.fl=7)||M (q.fl=8))&&M (q.nu=[])&&M (q.de=[]))
def fx(q:Query):Bool:=M (q.nw<=6)&&M (q.ng<=3)&&IT q&&DF q&&aas q&&Nz q
def FI{p}[Decidable p]{x y}(h:p)(k:y):ak (!decide p) x y:=by rw[bK h];exact k
def BY{q}(h:IT q=true){j}(a:j<q.nw):(1<=q.C j 0/\q.C j 0<=8)/\(1<=q.C j 1/\q.C j 1<=4)/\(-1<=q.C j 2/\q.C j 2<=4398046511104):=by
 have:=List.all_eq_true.1 h j (List.mem_range.2 a)
 grind
def IU{q}(h:DF q=true){j}(a:j<q.ng):(1<=q.G j/\q.G j<=6)/\(j=0∨q.G (j-1)<q.G j):=by
 have:=List.all_eq_true.1 h j (List.mem_range.2 a);simp_all
def FJ(q)(g:q.nw<=6)(h:IT q=true):ay PP II false (az II 37 4001) 13 (Nx q 0) (Sk q q.nw):=
 ay.of (ι:=Int) fU [] (aX PP II []) 1000 13 (λi=>0<=i/\i<=q.nw) (Nx q) (λ_=>Sk q q.nw) (λi=>(q.nw-i).toNat) (λi=>i+1) 0 A ⟨n_ _,l_ _⟩ λi hi=>by
  refine(FG q i q.nw _).mpr ?_;have e:z q.nw=(q.nw:Int):=rfl;have same:∀{x y:Int}{Z:Prop},x=y->Z->bh (Query.nw q) (Query.nw q) (an (Query.nw q) (av (Query.C q)) (av (Query.C q))/\bh (Query.ng q) (Query.ng q) (an (Query.ng q) (aN (Query.G q)) (aN (Query.G q))/\aS (Query.a q) (Query.a q) (aS (Query.fl q) (Query.fl q) (eX (Query.nu q) (Query.nu q) (eX (Query.de q) (Query.de q) (aS (Query.top q) (Query.top q)
    (bh (Query.nw q) (Query.nw q) (an (Query.nw q) (av (Query.C q)) (av (Query.C q))/\aS x y (aS (z (Query.nw q)) (z (Query.nw q)) Z))))))))):=λh b=>
   aan A ⟨cM _ _,aan A ⟨dJ _ _,aag A (aag A (aaY A (aaY A (aag A (aan A ⟨cM _ _,aag h (aag A b)⟩)))))⟩⟩
  refine aaA (λd=>?_) λf=>Y
  have c:=BY h (j:=i.toNat) O;refine ZE _ _ Y ?_;refine aaA (λ_=>FI c.1.2 (aaA (λ_=>FI c.2.1.2 (aaA (λ_=>FI c.2.2.2 (ZE _ _ (ai O O) Y)) O)) O)) O
def FK(q)(n:q.ng<=3)(h:DF q=true):ay PP II false (az II 37 10001) 13 (Ny q 0) (IR q q.ng):=
 ay.of (ι:=Int) fU [] (aX PP II []) 1000 13 (λi=>0<=i/\i<=q.ng) (Ny q) (λ_=>IR q q.ng) (λi=>(q.ng-i).toNat) (λi=>i+1) 0 A ⟨n_ _,l_ _⟩ λi hi=>by
  refine(FH q i q.ng _).mpr ?_;have e:z q.ng=(q.ng:Int):=rfl;have same:∀{x y:Int}{Z:Prop},x=y->Z->bh (Query.nw q) (Query.nw q) (an (Query.nw q) (av (Query.C q)) (av (Query.C q))/\bh (Query.ng q) (Query.ng q) (an (Query.ng q) (aN (Query.G q)) (aN (Query.G q))/\aS (Query.a q) (Query.a q) (aS (Query.fl q) (Query.fl q) (eX (Query.nu q) (Query.nu q) (eX (Query.de q) (Query.de q) (aS (Query.top q) (Query.top q)
    (bh (Query.ng q) (Query.ng q) (an (Query.ng q) (aN (Query.G q)) (aN (Query.G q))/\aS x y (aS (z (Query.ng q)) (z (Query.ng q)) Z))))))))):=λh b=>
   aan A ⟨cM _ _,aan A ⟨dJ _ _,aag A (aag A (aaY A (aaY A (aag A (aan A ⟨dJ _ _,aag h (aag A b)⟩)))))⟩⟩
  refine aaA (λg=>?_) λk=>Y
  have c:=IU h (j:=i.toNat) O;have d:aJ c_ (i+1)=true:=ai O O;have f:(0<=i+1/\i+1<=(q.ng:Int))/\((q.ng:Int)-(i+1)).toNat<((q.ng:Int)-i).toNat/\(IR q q.ng).pick=(IR q q.ng).pick:=Y;refine ZE _ _ Y ?_;refine aaA (λ_=>FI c.1.2 (aaA (λl=>ZE _ _ (ai O O) (ZE _ _ Y (aaA (λm=>?_) λ_=>ZE _ _ d (same A f)))) λl=>ZE _ _ d (same A f))) O
  grind
def IV(q)(h:fx q=true):af PP II 37 [.agg (aZ q)] (AH.blank 12) (.ret (.bool true) (AH.blank 12)):=by
 simp only[fx,ba,bl]at h;obtain⟨⟨⟨⟨⟨g,i⟩,h3⟩,h4⟩,j⟩,f⟩:=h;have k:=FJ q g h3;have l:=FK q i h4;refine bQ (ks:=[WY]) (T:=[(4001,13,Nx q 0,Sk q q.nw),(10001,13,Ny q 0,IR q q.ng)]) (λ_=>rfl) ?_;rw[IS];simp only[aas,ba,Bool.or_eq_true,bl,Nat.blt_eq]at j;simp only[Nz,ba,Bool.or_eq_true,bl]at f;have c:∀{Z:Prop},Z->bh q.nw q.nw (an q.nw (av q.C) (av q.C)/\bh q.ng q.ng (an q.ng (aN q.G) (aN q.G)/\aS q.a q.a (aS q.fl q.fl (eX q.nu q.nu (eX q.de q.de (aS q.top q.top (bh q.nw q.nw (an q.nw (av q.C) (av q.C)/\aS (z q.nw) (z q.nw) Z)))))))):=λb=>
  aan A ⟨cM _ _,aan A ⟨dJ _ _,aag A (aag A (aaY A (aaY A (aag A (aan A ⟨cM _ _,aag A b⟩)))))⟩⟩
 have d:∀{Z:Prop},Z->bh q.nw q.nw (an q.nw (av q.C) (av q.C)/\bh q.ng q.ng (an q.ng (aN q.G) (aN q.G)/\aS q.a q.a (aS q.fl q.fl (eX q.nu q.nu (eX q.de q.de (aS q.top q.top (bh q.ng q.ng (an q.ng (aN q.G) (aN q.G)/\aS (z q.ng) (z q.ng) Z)))))))):=λb=>
  aan A ⟨cM _ _,aan A ⟨dJ _ _,aag A (aag A (aaY A (aaY A (aag A (aan A ⟨dJ _ _,aag A b⟩)))))⟩⟩
 have n:z q.nw=(q.nw:Int):=rfl;have o:z q.ng=(q.ng:Int):=rfl;have m:ak (M (q.a=1)) (ak (M (q.fl=0)) (b_ (f_ q.nu []&&(f_ q.de []&&true))=b_ true) (b_ false=b_ true)) (ak (M (q.a=5)) (ak (M (q.fl>=7)) (ak (M (q.fl<=8)) (B (qq q.nu q.de) (b_ true=b_ true)) (b_ false=b_ true)) (b_ false=b_ true)) (ak (M (q.a>=2)) (ak (M (q.a<=4)) (ak (M (q.fl>=7)) (ak (M (q.fl<=8)) (b_ (f_ q.nu []&&(f_ q.de []&&true))=b_ true) (b_ false=b_ true)) (b_ false=b_ true)) (b_ false=b_ true)) (b_ false=b_ true))):=by
  rcases f with(⟨⟨⟨g1,g2⟩,g3⟩,g4⟩|⟨⟨g1,g2⟩,g3⟩)|⟨⟨⟨⟨g1,g2⟩,g3⟩,g4⟩,g5⟩
  ·exact aaA (λ_=>aaA (by simp_all) λh=>absurd g2 h) λh=>absurd g1 h
  ·exact aaA (λh=>O) λ_=>aaA (λ_=>aaA (λ_=>aaA (λ_=>ZE _ _ g3 A) λh=>O) λh=>O) λh=>absurd g1 h
  ·exact aaA (λh=>O) λ_=>aaA (λh=>O) λ_=>aaA (λ_=>aaA (λ_=>aaA (λ_=>aaA (by simp_all) λh=>O) λh=>O) λh=>O) λh=>O
 have e:=And.intro k (c (And.intro l (d m)))
 repeat' (first
  |exact e
  |refine aaA (λh=>?_) λh=>?_
  |exact FI O ?_
  |refine aaz (λh=>?_) λh=>?_
  |grind
  |omega)
def DG{cs}(h:q9 1 cs=true):cs=[.int c_ (cT cs 0)]:=by
 obtain⟨a,b⟩:=se 1 cs h;obtain⟨a0,c⟩:=b 0 O
 match cs,a with
 |[x],_=>
  grind
def kO{nw ng f g a fl top nu de}(b:ar 3 nw f=true)(c:ar 1 ng g=true):
  bj.le (λl=>l) [.ae nw 3 f,.ae ng 1 g,.int c_ a,.int c_ fl,.str nu,.str de,.int c_ top] (aZ ⟨nw,aF f,ng,λj=>cT (g j) 0,a,fl,nu,de,top⟩):=by
 refine⟨⟨rfl,rfl,λi hi=>?_⟩,⟨rfl,rfl,λi hi=>?_⟩,⟨rfl,rfl⟩,⟨rfl,rfl⟩,rfl,rfl,⟨rfl,rfl⟩,trivial⟩
 ·rw[(pY (dQ b hi)).1];exact ku (aF f) _ i
 ·rw[DG (dQ c hi)];exact pZ (λj=>cT (g j) 0) _ i
def kU:ax PP II:=ax.pure 37
 (λX args c=>match args with
  |[.agg [.ae nw 3 f,.ae ng 1 g,.int c_ a,.int c_ fl,.str nu,.str de,.int c_ top]]=>X.ag (ar 3 nw f&&ar 1 ng g) (X.ag (fx ⟨nw,aF f,ng,λj=>cT (g j) 0,a,fl,nu,de,top⟩) (c (.bool true)))
  |_=>X.fail)
 λX sem hX args c h=>by
  split at h
  ·obtain⟨b,d⟩:=hX.ag _ _ h;obtain⟨h3,h4⟩:=hX.ag _ _ d;rw[ba]at b;exact⟨_,h4,λ_=>rfl,λ_=>rfl,(IV _ h3).cS ⟨kO b.1 b.2,trivial⟩⟩
  ·exact zR
def YF(q)(Q):(kb [kU] [] 32 [.agg (aZ q)] Q)=(B (ar 3 q.nw (av q.C)&&ar 1 q.ng (aN q.G)) (B (fx {nw:=q.nw,C:=aF (av q.C),ng:=q.ng,G:=λj=>q.G j,a:=q.a,fl:=q.fl,nu:=q.nu,de:=q.de,top:=q.top}) (ak (M (q.fl=0)) (Q (b_ true)) (ak (M (q.fl=7)) (Q (b_ true)) (ak (M (q.fl=8)) (Q (b_ true)) (Q (b_ true))))))):=U
def lc(q):fx ⟨q.nw,aF (av q.C),q.ng,λj=>q.G j,q.a,q.fl,q.nu,q.de,q.top⟩=fx q:=rfl
def Sl{q}(a:ar 3 q.nw (av q.C)=true)(b:ar 1 q.ng (aN q.G)=true)(h3:fx q=true):af PP II 32 [.agg (aZ q)] (AH.blank 12) (.ret (.bool true) (AH.blank 12)):=by
 refine bQ (ks:=[kU]) (T:=[]) (λ_=>rfl) ?_;rw[YF];refine ZE _ _ (by rw[a,b];rfl) (ZE _ _ zI ?_);exact aaz (λ_=>rfl) λ_=>aaz (λ_=>rfl) λ_=>aaz (λ_=>rfl) λ_=>rfl
def vN{n f}(h:ar 1 n f=true):ar 1 n (aN λj=>cT (f j) 0)=true:=by
 refine List.all_eq_true.2 λj a=>?_
 have:=dQ h (List.mem_range.1 a);rw[DG this]at this;exact this
def abr:ax PP II:=ax.pure 32
 (λX args c=>match args with
  |[.agg [.ae nw 3 f,.ae ng 1 g,.int c_ a,.int c_ fl,.str nu,.str de,.int c_ top]]=>X.ag (ar 3 nw f&&ar 1 ng g) (X.ag (fx ⟨nw,aF f,ng,λj=>cT (g j) 0,a,fl,nu,de,top⟩) (c (.bool true)))
  |_=>X.fail)
 λX sem hX args c h=>by
  split at h
  ·obtain⟨b,d⟩:=hX.ag _ _ h;obtain⟨h3,h4⟩:=hX.ag _ _ d;rw[ba]at b;exact⟨_,h4,λ_=>rfl,λ_=>rfl,(Sl (q:=⟨_,aF _,_,λj=>cT _ 0,_,_,_,_,_⟩) (sg b.1) (vN b.2) h3).cS ⟨kO b.1 b.2,trivial⟩⟩
  ·exact zR
def NA(lo hi)(b)(Q):(kb [] [] 105 [.agg [.int c_ lo,.int c_ hi,.bool b]] Q)=(Q (b_ b)):=U
def YG(lo hi)(b)(Q):(kb [] [] 107 [.agg [.int c_ lo,.int c_ hi,.bool b]] Q)=(Q (e_ c_ lo)):=U
def Vv(lo hi)(b)(Q):(kb [] [] 111 [.agg [.int c_ lo,.int c_ hi,.bool b]] Q)=(Q (e_ c_ hi)):=U
def Sm(a b c d)(Q):(kp [qp] [] 108 [.agg [.str a,.str b],.agg [.str c,.str d]] Q)=(B (bX a b&&bX c d) (Q (b_ (M (bO (aw a) (aw b) (aw c) (aw d)<(0:Int)))))):=U
def Sn(a b c d)(Q):(kp [qp] [] 112 [.agg [.str a,.str b],.agg [.str c,.str d]] Q)=(B (bX a b&&bX c d) (Q (b_ (M (bO (aw a) (aw b) (aw c) (aw d)>(0:Int)))))):=U
def bR:ax PP II:=ax.pure 105
 (λX args a=>match args with
  |[.agg [.int c_ _,.int c_ _,.bool b]]=>a (.bool b)
  |_=>X.fail)
 λX sem hX args a h=>by
  split at h
  ·exact⟨_,h,λ_=>rfl,λ_=>rfl,bQ (T:=[]) (ks:=[]) (λ_=>rfl) ((NA _ _ _ _).mpr A)⟩
  ·exact zR
def oT:ax PP II:=ax.pure 107
 (λX args a=>match args with
  |[.agg [.int c_ lo,.int c_ _,.bool _]]=>a (.int c_ lo)
  |_=>X.fail)
 λX sem hX args a h=>by
  split at h
  ·exact⟨_,h,λ_=>rfl,λ_=>rfl,bQ (T:=[]) (ks:=[]) (λ_=>⟨rfl,rfl⟩) ((YG _ _ _ _).mpr A)⟩
  ·exact zR
def jU:ax PP II:=ax.pure 111
 (λX args a=>match args with
  |[.agg [.int c_ _,.int c_ hi,.bool _]]=>a (.int c_ hi)
  |_=>X.fail)
 λX sem hX args a h=>by
  split at h
  ·exact⟨_,h,λ_=>rfl,λ_=>rfl,bQ (T:=[]) (ks:=[]) (λ_=>⟨rfl,rfl⟩) ((Vv _ _ _ _).mpr A)⟩
  ·exact zR
def Sp{a b c d}(e:bX a b=true)(f:bX c d=true):af PP II 108 [.agg [.str a,.str b],.agg [.str c,.str d]] HP (.ret (.bool (M (bO (aw a) (aw b) (aw c) (aw d)<0))) HP):=
 lP (T:=[]) ((Sm a b c d _).mpr (ZF (by rw[e,f];rfl) λ_=>rfl))
def Sq{a b c d}(e:bX a b=true)(f:bX c d=true):af PP II 112 [.agg [.str a,.str b],.agg [.str c,.str d]] HP (.ret (.bool (M (bO (aw a) (aw b) (aw c) (aw d)>0))) HP):=
 lP (T:=[]) ((Sn a b c d _).mpr (ZF (by rw[e,f];rfl) λ_=>rfl))
def gK:ax PP II:=ax.oR 108
 (λX args f=>match args with
  |[.agg [.str a,.str b],.agg [.str c,.str d]]=>X.ag (bX a b&&bX c d) (f (.bool (M (bO (aw a) (aw b) (aw c) (aw d)<0))))
  |_=>X.fail)
 λX sem hX args f h=>by
  split at h
  ·obtain⟨e,g⟩:=hX.ag _ _ h;simp only[ba]at e;exact⟨_,g,λ_=>rfl,λ_=>rfl,Sp e.1 e.2⟩
  ·exact zR
def gL:ax PP II:=ax.oR 112
 (λX args f=>match args with
  |[.agg [.str a,.str b],.agg [.str c,.str d]]=>X.ag (bX a b&&bX c d) (f (.bool (M (bO (aw a) (aw b) (aw c) (aw d)>0))))
  |_=>X.fail)
 λX sem hX args f h=>by
  split at h
  ·obtain⟨e,g⟩:=hX.ag _ _ h;simp only[ba]at e;exact⟨_,g,λ_=>rfl,λ_=>rfl,Sq e.1 e.2⟩
  ·exact zR
end
end Go.Sx
