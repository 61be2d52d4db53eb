/- The proof of a statement of the seat, part 28. -/
import Derived.Test.YtleifmkjbmhlpaaGreatDoorX26
import Derived.Test.YtleifmkjbmhlpaaGreatDoorX27
import Derived.Test.YtleifmkjbmhlpaaGreatDoorX24
import Derived.Test.YtleifmkjbmhlpaaGreatDoorX01
import Derived.Test.YtleifmkjbmhlpaaGreatDoorX14
set_option linter.all false
set_option linter.defProp false
section
set_option maxRecDepth 1000000
namespace Go.Sx
open Go Go.Proofs Go.Sort
theorem DK{α}[Inhabited α]{enc}{d:Array α}{vs}(hl:vs.length=d.size)(rest):putCells enc 0 d (vs++rest).toArray=(d.toList.map enc++rest).toArray:=by
 have a:(d.toList.map enc).length=d.size:=zA;apply Array.ext_getElem?;intro k;simp only[putCells,Array.getElem?_mapIdx,List.getElem?_toArray];by_cases hk:k<d.size
 ·rw[List.getElem?_append_left O,List.getElem?_append_left O];have:k<vs.length:=O;simp[hk,this]
 ·rw[List.getElem?_append_right O,List.getElem?_append_right O,hl,a];cases rest[k-d.size]? with
  |none=>rfl
  |some x=>simp[hk]
theorem oV{ρ f}(b:∀i,(f i).length=1):∀{n vs},aV ρ (rowsOf n f) vs->vs.length=n/\∀i,i<n->∃v,vs[i]? =some v/\aV ρ (f i) [v]
 |0,vs,h=>by have h:vs=[]:=h;subst h;exact⟨rfl,λi hi=>absurd hi (qx _)⟩
 |n+1,vs,h=>by
  rw[show rowsOf (n+1) f=rowsOf n f++f n by simp[rowsOf,List.range_succ]]at h;obtain⟨us,d,rfl,k1,k2⟩:=q8 h;obtain⟨c,e⟩:=oV b k1;have g:d.length=1:=by rw[<-k2.length_eq,b]
  obtain⟨v,rfl⟩:=List.length_eq_one_iff.1 g;refine⟨by simp[c],λi hi=>?_⟩;by_cases a:i<n
  ·obtain⟨u,g1,g2⟩:=e i a;exact⟨u,by rw[List.getElem?_append_left O];exact g1,g2⟩
  ·have:i=n:=by omega
   subst this;exact⟨v,by rw[List.getElem?_append_right O,c,Nat.sub_self];rfl,k2⟩
theorem rb{ρ f}:∀{n vs},vs.length=n->(∀i,i<n->∃v,vs[i]? =some v/\aV ρ (f i) [v])->aV ρ (rowsOf n f) vs
 |0,vs,h,_=>List.eq_nil_of_length_eq_zero h
 |n+1,vs,h,k=>by
  rw[show rowsOf (n+1) f=rowsOf n f++f n by simp[rowsOf,List.range_succ]];obtain⟨v,g1,g2⟩:=k n O;have e:vs=vs.take n++[v]:=by
   rw[<-List.take_append_drop n vs];have:vs.drop n=[v]:=by
    apply List.ext_getElem?;intro i;rw[List.getElem?_drop];cases i with
    |zero=>exact g1
    |succ i=>rw[List.getElem?_eq_none O];rfl
   rw[this];congr 1;rw[List.take_append_of_le_length zJ,List.take_take,Nat.min_self]
  rw[e];refine(rb zJ λi hi=>?_).append g2;obtain⟨u,a,b⟩:=k i O;exact⟨u,by rw[List.getElem?_take,if_pos hi];exact a,b⟩
theorem Rel.KZ{c ρ H w}{l n T b N:Nat}{R}(E:Rel c ρ H w)(hl:H.get l= .rows n 1 R (.ty T))(F:ρ l=some (b,N))(J:∀i,(R i).length=1):
  b<w.heap.size/\∃vs,vs.length=n/\(∀i,i<n->∃v,vs[i]? =some v/\aV ρ (R i) [v])/\(∀v∈vs,v.oneCell'=true)/\
   ∀{α} [Inhabited α] (enc) (d),d.toList.map enc=vs->Holds enc w b 0 d/\∀(h:Array α)(R')(m)(os),h.size=n->(∀a,(enc a).oneCell'=true)->(∀i,(R' i).length=1)->
    (∀i,i<n->∃v,(h.toList.map enc)[i]? =some v/\aV ρ (R' i) [v])->Rel c ρ (H.set l (.rows n 1 R' (.ty T))) (sortWorld enc w b 0 m h os):=by
 have o:bn ρ w (ρ l) (.rows n 1 R (.ty T)):=by rw[<-hl];exact E.eB l
 have s:(H.get l).rw=true:=by rw[hl];rfl
 rw[F]at o;rcases o.2 with⟨_,e⟩|⟨Q,S,vs,rest,el,G,g1,g2,g3,g4,g5,g6,g7⟩
 ·cases e
 cases g1;have t:b<w.heap.size:=(Array.getElem?_eq_some_iff.1 g2).1;obtain⟨f,u⟩:=oV J g4;refine⟨t,vs,f,u,g6,λ{α} _ enc d I=>?_⟩;have K:d.size=n:=by rw[<-f,<-I];simp
 refine⟨λj L=>⟨?_,?_⟩,λh R' m os q y C D=>?_⟩
 ·show(match w.heap[b]? with|some (.cells c _ _)=>_|_=>_)=_;rw[g2];show(vs++rest).toArray[0+j]? =some (enc d[j]!);rw[Nat.zero_add,List.getElem?_toArray,List.getElem?_append_left O,<-I];simp[L]
 ·show(match w.heap[b]? with|some (.cells _ _ (lo,hi))=>_|_=>_)=_;rw[g2];obtain⟨lo,hi⟩:=G;have P:=g5.w A j (by rw[<-g3,List.length_append];omega);show(decide (lo<=0+j)&&decide (0+j<hi))=false;rw[Nat.zero_add];exact Bool.eq_false_iff.2 λe=>P (by simpa using e)
 ·have ht:Rel c ρ (H.set l (.rows n 1 R' (.ty T))) (putRow enc (Sort.ahead w m) b 0 h):=by
   refine E.gX _ s F (λk o=>?_) ?_ A A A ?_
   ·show(w.heap.modify b _)[k]? =_;rw[Array.getElem?_modify,if_neg (λe=>o e.symm)]
   ·show(w.heap.modify b _).size=_;simp
   ·refine⟨λi _=>C i,.inr ⟨b,N,h.toList.map enc,rest,el,G,rfl,?_,?_,rb (by simp[q]) D,g5,?_,λe=>zG⟩⟩
    ·show(w.heap.modify b _)[b]? =_;rw[Array.getElem?_modify,if_pos A,g2];show some (Obj.cells _ _ _)=_;rw[DK O]
    ·rw[<-g3];simp[q,f]
    ·intro v u;obtain⟨a,_,rfl⟩:=List.mem_map.1 u;exact y a
  refine ht.under (w':=sortWorld enc w b 0 m h os) ⟨rfl,rfl,rfl,?_,λk o=>?_⟩
  ·show _<=(_++os).size;simp
  ·show(_++os)[k]? =_;rw[Array.getElem?_append_left o]
theorem NH(n)(W):iz (ltOf Lib.compareInt) n W=((List.range n).map W).mergeSort λx y=>decide (x<=y):=by
 unfold iz;congr 1;funext x y;rw[NB];by_cases h:x<=y
 ·rw[bK h,nJ O];rfl
 ·rw[nJ h,bK O];rfl
theorem NI{ρ W n vs}(b:vs.length=n)(a:∀i,i<n->∃v,vs[i]? =some v/\aV ρ (ah W i) [v]):((List.range n).map W).map (Value.int .i64)=vs:=by
 apply List.ext_getElem?;intro i;by_cases hi:i<n
 ·obtain⟨v,g1,g2⟩:=a i hi;have g2:aV ρ [.int .i64 (W i)] [v]:=g2;have:=(aV.aM.1 g2).1;simp only[VR]at this;rw[g1,this];simp[hi]
 ·rw[List.getElem?_eq_none zJ,List.getElem?_eq_none O]
noncomputable def YJ:ax PP II where
 f:=330
 spec X args H p _:=match args with
  |[.own l n 1]=>match H.get l with
   | .rows m 1 f (.ty 3)=>X.ag (bN n f&&Nat.beq n m&&Nat.blt 0 n&&Nat.blt n 4611686018427387904) (p (.bM []) ((H.set l (.rows n 1 (ah (a8 f)) (.ty 3))).set l (.rows n 1 (ah (cn n (a8 f))) (.ty 3))))
   |_=>X.fail
  |_=>X.fail
 ok X sem hX args H p kp h:=by
  split at h
  ·rename_i l n;split at h
   ·rename_i m f hl;obtain⟨q,s⟩:=hX.ag _ _ h;simp only[ba,Nat.blt_eq]at q;obtain⟨⟨⟨a1,a2⟩,F⟩,a4⟩:=q;cases dV a2;refine⟨.ret _ _,s,λc ρ w vs hG t v=>?_⟩;obtain⟨u,us,rfl,x,rfl⟩:=t;rcases x with⟨e,_⟩|⟨b,N,cap,y,rfl,C,D⟩
    ·omega
    have g:=v.KY hl a1;obtain⟨j,vs,g1,g2,g3,g4⟩:=g.KZ (l:=l) (n:=n) (R:=ah (a8 f)) (AH.get_set_same _ _ _) y λ_=>rfl
    have o:=NI g1 g2;obtain⟨E,d⟩:=g4 (Value.int .i64) ((List.range n).map (a8 f)).toArray o;have a:((List.range n).map (a8 f)).length=n:=zA;have:=Any.slices_Sort_int Tryz.NG b 0 cap ((List.range n).map (a8 f)) w E j (by rw[a];exact a4);change Calls Tryz.prog 330 _ _ _ at this;rw[a]at this;refine .inl ⟨enters_of Tryz.func330 U A _ w,this.mono ?_⟩
    rintro e w' ⟨rfl,k,os,rfl⟩
    refine⟨ρ,Ext.refl ρ,d _ (ah (cn n (a8 f))) k os ?_ (λ_=>rfl) (λ_=>rfl) λi hi=>?_,[],rfl,rfl⟩
    ·simp
    ·refine⟨.int .i64 (cn n (a8 f) i),?_,⟨_,[],rfl,rfl,rfl⟩⟩;have r:=p5 (ltOf Lib.compareInt) n (a8 f);have e:=NH n (a8 f);rw[<-e];unfold cn;rw[List.getElem?_map,oa (by simpa [r]using hi),List.getD_eq_getElem?_getD];simp[r,hi]
   ·exact zR
  ·exact zR
end Go.Sx
end
section
set_option maxRecDepth 1000000
namespace Go.Sx
open Go
noncomputable def aax(k:Nat)(W:Nat->Int)(i:Int):AH:={n:=38,t:=Tr.ofList [(6,.cells dS (.ex 20)),(13,.cells [.str [],.str []] (.ty 32)),(34,.cells [.own 37 i.toNat 1] (.ty 30)),(35,.tL),(36,.loop .ready none (Tr.ofList [(2,.ptr 34 0 0 0)]) 13 [7] (aP II 334) (aQ II 334) 35),(37,.rows i.toNat 1 (ah W) (.ty 3))]}
noncomputable def FO(k:Nat)(W:Nat->Int)(i:Int):St:={t:=Tr.ofList [(0,.yield 36),(5,.ae k 1 (ah W)),(6,.int .i64 (Int.ofNat k)),(7,.int .i64 i)],nt:=16,H:=aax k W i,df:=[]}
noncomputable def FQ(k:Nat)(W:Nat->Int):GE:=.one (.x 0 {t:=.e,nt:=16,H:=aax k W (Int.ofNat k),df:=[]})
theorem Cb(k)(W)(i)(Q):(kr [] [] 331 1001 37 (FO k W) (λ_=>FQ k W) (λi=>i+1) Q i)=(ak (decide (i<Int.ofNat k)) (B (decide (0<=i)&&decide (i<Int.ofNat k)) (B (decide (i.toNat<=i.toNat)&&true&&true&&decide ((i.toNat+1)*8<=140737488355328)&&true) (B (aJ .i64 (i+1)) (bh (i.toNat+1) (Int.toNat (i+1)) (an (i.toNat+1) (λa=>bif Nat.blt a i.toNat then ah W a else List.take 1 (List.drop (0+(a-i.toNat)*1) [AV.int .i64 (W i.toNat)])) (ah W)/\aH (aP II 334) (aP II 334)/\aH (aQ II 334) (aQ II 334)/\bh (i.toNat+1) (Int.toNat (i+1)) (zyB [] (zyB [] (zyI (i+1) (zyN k (zyR k (ah W) (zyI (Int.ofNat k) Q))))))))))) (bh i.toNat (Int.toNat (Int.ofNat k)) (zyR i.toNat (ah W) (aH (aP II 334) (aP II 334)/\aH (aQ II 334) (aQ II 334)/\bh i.toNat (Int.toNat (Int.ofNat k)) (zyB [] (zyB [] True)))))):=U
theorem VG(nw ng k)(f g)(W)(a fl top)(nu de)(Q){b}(d:b=(if Int.tdiv (cz nu*Int.ofNat k+cz de-1) (cz de)>1 then Int.tdiv (cz nu*Int.ofNat k+cz de-1) (cz de)else 1)){c}(e:c=(cn (Int.toNat (Int.ofNat k)) (λi=>W i) (Int.toNat (b-1)))):(kp [DA,YJ,KI] [(1001,37,FO k W 0,FQ k W)] 324 [.agg [.ae nw 3 f,.ae ng 1 g,.int .i64 a,.int .i64 fl,.str nu,.str de,.int .i64 top],.ae k 1 (ah W)] Q)=(B (jM nu&&Nat.ble (List.length nu) 1000000) (B (jM de&&Nat.ble (List.length de) 1000000) (ay PP II false (az II 331 1001) 37 (FO k W 0) (FQ k W)/\aH (aP II 334) (aP II 334)/\aH (aQ II 334) (aQ II 334)/\zyB [] (zyB [] (zyN k (zyR k (ah W) (zyI (Int.ofNat k) (B ((List.all (List.range.loop (Int.toNat (Int.ofNat k)) []) λi=>true)&&Nat.beq (Int.toNat (Int.ofNat k)) (Int.toNat (Int.ofNat k))&&Nat.blt 0 (Int.toNat (Int.ofNat k))&&Nat.blt (Int.toNat (Int.ofNat k)) 4611686018427387904) (B (decide (Int.ofNat k=Int.ofNat k)) (B (decide (Int.ofNat k=Int.ofNat k)) (B (aJ .i64 (cz nu*Int.ofNat k)) (B (aJ .i64 (cz nu*Int.ofNat k+cz de)) (B (aJ .i64 (cz nu*Int.ofNat k+cz de-1)) (B (!decide (cz de=0)&&aJ .i64 (Int.tdiv (cz nu*Int.ofNat k+cz de-1) (cz de))) (B (aJ .i64 (b-1)) (B (decide (0<=b-1)&&decide (b-1<Int.ofNat (Int.toNat (Int.ofNat k)))) (B (decide (Int.toNat (b-1)<Int.toNat (Int.ofNat k))) (B (decide (0<=cn (Int.toNat (Int.ofNat k)) (λi=>W i) (Int.toNat (b-1)))&&aJ .i64 c) (Q (AV.agg [AV.str (ck (c.toNat/Nat.gcd c.toNat 1)),AV.str (ck (1/Nat.gcd c.toNat 1))])))))))))))))))))))):=by subst_vars;kernel_rfl
end Go.Sx
end
section
set_option maxRecDepth 1000000
namespace Go.Sx
open Go
def cD(lo hi:Nat->Int):List AV:=[.int .i64 (lo 0),.int .i64 (lo 1),.int .i64 (lo 2),.int .i64 (lo 3),.int .i64 (lo 4),.int .i64 (lo 5),.int .i64 (lo 6),.int .i64 (lo 7),.int .i64 (hi 0),.int .i64 (hi 1),.int .i64 (hi 2),.int .i64 (hi 3),.int .i64 (hi 4),.int .i64 (hi 5),.int .i64 (hi 6),.int .i64 (hi 7)]
noncomputable def YK(q:Query)(lo hi:Nat->Int)(i:Int):St:={t:=Tr.ofList [(2,.ptr 12 0 0 0),(3,.ptr 13 0 0 0),(11,.ae q.nw 3 (av q.C)),(12,.int .i64 q.nw),(13,.int .i64 i)],nt:=80,H:={n:=14,t:=Tr.ofList [(12,.cells (aZ q) (.ty 34)),(13,.cells (cD lo hi) (.ty 46))]},df:=[]}
noncomputable def Em(b:Bool):GE:=.cond b (.one (.r {t:=Tr.ofList [(4,.bool true)],nt:=80,H:=AH.blank 14,df:=[]})) (.one (.x 0 {t:=.e,nt:=80,H:=AH.blank 14,df:=[]}))
theorem Cc(q)(lo hi)(b)(i)(Q):(kr [] [] 34 2001 14 (YK q lo hi) (λ_=>Em b) (λi=>i+1) Q i)=(let j:=(B (aJ .i64 (i+1)) (zyI (lo 0) (zyI (lo 1) (zyI (lo 2) (zyI (lo 3) (zyI (lo 4) (zyI (lo 5) (zyI (lo 6) (zyI (lo 7) (zyI (hi 0) (zyI (hi 1) (zyI (hi 2) (zyI (hi 3) (zyI (hi 4) (zyI (hi 5) (zyI (hi 6) (zyI (hi 7) (zyN q.nw (zyR q.nw (av q.C) (zyN q.ng (zyR q.ng (aN q.G) (zyI q.a (zyI q.fl (zyB q.nu (zyB q.de (zyI q.top (zyN q.nw (zyR q.nw (av q.C) (zyI (i+1) (zyI (Int.ofNat q.nw) Q))))))))))))))))))))))))))))));let c:=(ak b (true=true/\True) False);let g:=(decide (dn (cD lo hi) (Int.toNat (q.C i.toNat 0-1)*1+0)<=dn (cD lo hi) (Int.toNat (q.C i.toNat 0-1)*1+8)));let k:=(ak (decide (q.C i.toNat 1=4)) (ak (!decide (dn (cD lo hi) (Int.toNat (q.C i.toNat 0-1)*1+8)>=q.C i.toNat 2)) c j) c);let l:=(ak (!decide (q.C i.toNat 2<=dn (cD lo hi) (Int.toNat (q.C i.toNat 0-1)*1+8))) c j);let m:=(ak (!decide (dn (cD lo hi) (Int.toNat (q.C i.toNat 0-1)*1+0)<q.C i.toNat 2)) c j);let n:=(ak (!!decide (dn (cD lo hi) (Int.toNat (q.C i.toNat 0-1)*1+8)=q.C i.toNat 2)) c j);let e:=(decide (q.C i.toNat 1=1));let f:=(decide (q.C i.toNat 1=2));let d:=(decide (q.C i.toNat 1=3));let h:=(ak (decide (q.C i.toNat 1=4)) c c);let o:=(!decide (dn (cD lo hi) (Int.toNat (q.C i.toNat 0-1)*1+0)=q.C i.toNat 2));let p:=(decide (0<=q.C i.toNat 0-1)&&decide (q.C i.toNat 0-1<8));(ak (decide (i<Int.ofNat q.nw)) (B (decide (0<=i)&&decide (i<Int.ofNat q.nw)) (B (aJ .i64 (q.C i.toNat 0-1)) (B p (B (decide (Int.toNat (q.C i.toNat 0-1)*1+0<16)) (B (aJ .i64 (q.C i.toNat 0-1)) (B p (B (decide (Int.toNat (q.C i.toNat 0-1)*1+8<16)) (ak (decide (dn (cD lo hi) (Int.toNat (q.C i.toNat 0-1)*1+0)<=q.C i.toNat 2)) (ak g (ak o (ak g (ak g (ak e l (ak f j (ak d m k))) (ak e l (ak f j (ak d m h)))) (ak g (ak e l (ak f j (ak d c k))) (ak e l (ak f j (ak d c h))))) (ak g (ak g (ak e l (ak f n (ak d m k))) (ak e l (ak f n (ak d m h)))) (ak g (ak e l (ak f n (ak d c k))) (ak e l (ak f n (ak d c h)))))) (ak g (ak g (ak e l (ak f c (ak d m k))) (ak e l (ak f c (ak d m h)))) (ak g (ak e l (ak f c (ak d c k))) (ak e l (ak f c (ak d c h)))))) (ak g (ak o (ak g (ak g (ak e c (ak f j (ak d m k))) (ak e c (ak f j (ak d m h)))) (ak g (ak e c (ak f j (ak d c k))) (ak e c (ak f j (ak d c h))))) (ak g (ak g (ak e c (ak f n (ak d m k))) (ak e c (ak f n (ak d m h)))) (ak g (ak e c (ak f n (ak d c k))) (ak e c (ak f n (ak d c h)))))) (ak g (ak g (ak e c (ak f c (ak d m k))) (ak e c (ak f c (ak d m h)))) (ak g (ak e c (ak f c (ak d c k))) (ak e c (ak f c (ak d c h)))))))))))))) (ak b False True))):=U
theorem VH(q)(lo hi)(b)(Q):(kb [] [(2001,14,YK q lo hi 0,Em b)] 34 [.agg (aZ q),.agg (cD lo hi)] Q)=(ay PP II false (az II 34 2001) 14 {t:=.n (.n (.n .e (some (AV.ptr 13 0 0 0)) (.n .e (some (AV.ae q.nw 3 (av q.C))) .e)) none (.n .e none (.n .e (some (AV.int .i64 0)) .e))) none (.n (.n .e none (.n .e (some (AV.int .i64 (Int.ofNat q.nw))) .e)) (some (AV.ptr 12 0 0 0)) .e),nt:=80,H:={n:=14,t:=.n (.n .e none (.n .e none (.n .e (some (aae.cells (cD lo hi) (Access.ty 46))) .e))) none (.n (.n .e none (.n .e (some (aae.cells (aZ q) (Access.ty 34))) .e)) none .e)},df:=[]} (GE.cond b (GE.one (aK.r {t:=.n .e none (.n (.n .e (some (AV.bool true)) .e) none .e),nt:=80,H:={n:=14,t:=.e},df:=[]})) (GE.one (aK.x 0 {t:=.e,nt:=80,H:={n:=14,t:=.e},df:=[]})))/\zyI (lo 0) (zyI (lo 1) (zyI (lo 2) (zyI (lo 3) (zyI (lo 4) (zyI (lo 5) (zyI (lo 6) (zyI (lo 7) (zyI (hi 0) (zyI (hi 1) (zyI (hi 2) (zyI (hi 3) (zyI (hi 4) (zyI (hi 5) (zyI (hi 6) (zyI (hi 7) (zyN q.nw (zyR q.nw (av q.C) (zyN q.ng (zyR q.ng (aN q.G) (zyI q.a (zyI q.fl (zyB q.nu (zyB q.de (zyI q.top (zyN q.nw (zyR q.nw (av q.C) (zyI (Int.ofNat q.nw) (ak b (Q (AV.bool true)) (Q (AV.bool false))))))))))))))))))))))))))))))):=U
end Go.Sx
end
section
set_option maxRecDepth 1000000
namespace Go.Sx
open Go
theorem aa0{p}[Decidable p]{x y}(h :¬ p->x)(k:p->y):ak (!decide p) x y:=by
 by_cases hp:p
 ·rw[bK hp];exact k hp
 ·rw[nJ hp];exact h hp
theorem aa1{p}[Decidable p]{x y}(h:p->x)(k :¬ p->y):ak (!!decide p) x y:=by rw[Bool.not_not];exact aaA h k
def zn(a b o N:Int):Bool:=decide ((o=1/\a<=N/\N<=b)∨(o=2/\a<=b/\(a≠N∨b≠N))∨(o=3/\a<=b/\a<N)∨(o=4/\a<=b/\N<=b))
def FR(C:Nat->Nat->Int)(cs:List AV)(j:Nat):Bool :=!zn (dn cs (Int.toNat (C j 0-1)*1+0)) (dn cs (Int.toNat (C j 0-1)*1+8)) (C j 1) (C j 2)
def iL(nw:Nat)(C:Nat->Nat->Int)(cs:List AV):Bool:=(List.range nw).any λj=>FR C cs j
theorem I0(q)(lo hi)(b)(i)(j:Nat)(l:i=(j:Int))(u:q.nw<=6)(v:j<q.nw)(w:(1<=q.C j 0/\q.C j 0<=8)/\(1<=q.C j 1/\q.C j 1<=4))(Q)
  (hQ:FR q.C (cD lo hi) j=false->Q) (m:FR q.C (cD lo hi) j=true->b=true):
  kr [] [] 34 2001 14 (YK q lo hi) (λ_=>Em b) (λi=>i+1) Q i:=by
 refine(Cc q lo hi b i Q).mpr ?_;have t:Int.toNat i=j:=O;have y:Int.ofNat q.nw=(q.nw:Int):=rfl;rw[t];unfold FR zn at hQ m;have f:aJ .i64 (i+1)=true:=ai O O;have n:aJ .i64 (q.C j 0-1)=true:=ai O O;have hx:(decide (0<=q.C j 0-1)&&decide (q.C j 0-1<8))=true:=by simp only[ba,bl];omega
 have g:decide (Int.toNat (q.C j 0-1)*1+0<16)=true:=bK O;have k:decide (Int.toNat (q.C j 0-1)*1+8<16)=true:=bK O;have same:∀{Z:Prop},Z->aS (lo 0) (lo 0) (aS (lo 1) (lo 1) (aS (lo 2) (lo 2) (aS (lo 3) (lo 3) (aS (lo 4) (lo 4) (aS (lo 5) (lo 5) (aS (lo 6) (lo 6) (aS (lo 7) (lo 7) (aS (hi 0) (hi 0) (aS (hi 1) (hi 1) (aS (hi 2) (hi 2) (aS (hi 3) (hi 3) (aS (hi 4) (hi 4) (aS (hi 5) (hi 5) (aS (hi 6) (hi 6) (aS (hi 7) (hi 7)
   (bh (Query.nw q) (Query.nw q) (an (Query.nw q) (av (Query.C q)) (av (Query.C q))/\bh (Query.ng q) (Query.ng q) (an (Query.ng q) (aN (Query.G q)) (aN (Query.G q))/\aS (Query.a q) (Query.a q) (aS (Query.fl q) (Query.fl q) (eX (Query.nu q) (Query.nu q) (eX (Query.de q) (Query.de q) (aS (Query.top q) (Query.top q) (bh (Query.nw q) (Query.nw q) (an (Query.nw q) (av (Query.C q)) (av (Query.C q))/\aS (i+1) (i+1) (aS (Int.ofNat (Query.nw q)) (Int.ofNat (Query.nw q)) Z))))))))))))))))))))))))):=λc=>
  aag A (aag A (aag A (aag A (aag A (aag A (aag A (aag A (aag A (aag A (aag A (aag A (aag A (aag A (aag A (aag A (aan A ⟨cM _ _,aan A ⟨dJ _ _,aag A (aag A (aaY A (aaY A (aag A (aan A ⟨cM _ _,aag A (aag A c)⟩)))))⟩⟩))))))))))))))))
 refine aaA (λ_=>?_) λh=>absurd h O
 refine ZE _ _ (by simp only[ba,bl];omega) (ZE _ _ n (ZE _ _ hx (ZE _ _ g (ZE _ _ n (ZE _ _ hx (ZE _ _ k ?_))))));obtain⟨p,x⟩:=w;clear hx g k n v u t l;generalize dn (cD lo hi) (Int.toNat (q.C j 0-1)*1+0)=d at*;generalize dn (cD lo hi) (Int.toNat (q.C j 0-1)*1+8)=e at*;generalize q.C j 1=o at*;generalize q.C j 2=N at*;clear p;have r:((o=1/\d<=N/\N<=e)∨(o=2/\d<=e/\(d≠N∨e≠N))∨(o=3/\d<=e/\d<N)∨(o=4/\d<=e/\N<=e))->B (aJ .i64 (i+1)) _:=λh=>ZE _ _ f (same (hQ (by rw[bK h];rfl)))
 have s :¬ ((o=1/\d<=N/\N<=e)∨(o=2/\d<=e/\(d≠N∨e≠N))∨(o=3/\d<=e/\d<N)∨(o=4/\d<=e/\N<=e))->ak b (true=true/\True) False:=λh=>by rw[m (by rw[nJ h];rfl)];exact⟨rfl,trivial⟩
 clear hQ m same f
 repeat' (first
  |with_reducible refine aa1 (λ_=>?_) λ_=>?_
  |with_reducible refine aa0 (λ_=>?_) λ_=>?_
  |with_reducible refine aaA (λ_=>?_) λ_=>?_
  |exact s O
  |exact r O)
def K0(q:Query):Prop := ∀j,j<q.nw->(1<=q.C j 0/\q.C j 0<=8)/\(1<=q.C j 1/\q.C j 1<=4)
theorem NJ(q)(lo hi)(l:q.nw<=6)(m:K0 q):ay PP II false (az II 34 2001) 14 (YK q lo hi 0) (Em (iL q.nw q.C (cD lo hi))):=by
 have key:=ay.of (ι:=Nat) fU [] (aX PP II []) 1000 (c:=az II 34 2001) (ir:=false) 14 (λj=>j<=q.nw/\∀k,k<j->FR q.C (cD lo hi) k=false) (λj=>YK q lo hi (j:Int)) (λ_=>Em (iL q.nw q.C (cD lo hi))) (λj=>q.nw-j) (λj=>j+1) 0 A ⟨Nat.zero_le _,λk d=>absurd d (qx _)⟩ λj f=>?_
 ·exact key
 obtain⟨o,g⟩:=f;by_cases a:j<q.nw
 ·have:=I0 q lo hi (iL q.nw q.C (cD lo hi)) (j:Int) j A l a (m j a) ((j+1<=q.nw/\∀k,k<j+1->FR q.C (cD lo hi) k=false)/\q.nw-(j+1)<q.nw-j/\(Em (iL q.nw q.C (cD lo hi))).pick=(Em (iL q.nw q.C (cD lo hi))).pick)
   (λh=>⟨⟨a,λk d=>by
    by_cases e:k=j
    ·rw[e];exact h
    ·exact g k O⟩,O,rfl⟩)
   (λh=>List.any_eq_true.2 ⟨j,List.mem_range.2 a,h⟩)
  exact this
 ·have f:j=q.nw:=by omega
  have b:iL q.nw q.C (cD lo hi)=false:=by unfold iL;rw[List.any_eq_false];intro k d;rw[g k (by have:=List.mem_range.1 d;omega)];exact Bool.false_ne_true
  rw[b];have done:∀(i:Int)(Q:Prop),i=(q.nw:Int)->kr [] [] 34 2001 14 (YK q lo hi) (λ_=>Em false) (λi=>i+1) Q i:=λi Q n=>by
   refine(Cc q lo hi false i Q).mpr ?_;have p:Int.ofNat q.nw=(q.nw:Int):=rfl;refine aaA (λh=>absurd h O) λ_=>?_
   trivial
  exact done (j:Int) _ O
theorem VI(q)(lo hi)(a:q.nw<=6)(c:K0 q):af PP II 34 [.agg (aZ q),.agg (cD lo hi)] (AH.blank 12) (.ret (.bool (iL q.nw q.C (cD lo hi))) (AH.blank 12)):=by
 have hl:=NJ q lo hi a c;generalize iL q.nw q.C (cD lo hi)=b at*;refine bQ (ks:=[]) (T:=[(2001,14,YK q lo hi 0,Em b)]) (λ_=>rfl) ?_;rw[VH];refine⟨hl,?_⟩;refine aag A (aag A (aag A (aag A (aag A (aag A (aag A (aag A (aag A (aag A (aag A (aag A (aag A (aag A (aag A (aag A (aan A ⟨cM _ _,aan A ⟨dJ _ _,aag A (aag A (aaY A (aaY A (aag A (aan A ⟨cM _ _,aag A ?_⟩)))))⟩⟩))))))))))))))));cases b with
 |true=>rfl
 |false=>rfl
end Go.Sx
end
section
namespace Go.Sx.Small
inductive Pt where
 |fact
 |closed
 |node (l r:Pt)
def kinds:Pt->List Int
 | .fact=>[2]
 | .closed=>[3]
 | .node l r=>1::(kinds l++kinds r)
def facts:Pt->Nat
 | .fact=>1
 | .closed=>0
 | .node l r=>facts l+facts r
def opens:Pt->Nat
 | .node l r=>1+opens l+opens r
 |_=>0
def lE:Pt->Nat
 | .node l r=>1+max (lE l) (lE r)
 |_=>0
def sQ:Pt->Bool
 | .node l r=>Nat.beq (facts l+facts r) 0||(sQ l||sQ r)
 |_=>false
def VJ:List Int->Int->Nat->Nat
 |[],_,f=>f
 |k::ks,left,f=>bif decide (left>0)then VJ ks (bif decide (k=1)then left-1+2 else left-1) (bif decide (k=2)then f+1 else f)else f
def uG:List Int->Bool
 |[]=>false
 |k::ks=>(decide (k=1)&&Nat.beq (VJ ks 2 0) 0)||uG ks
def om:List Int->Nat
 |[]=>0
 |k::ks=>(bif decide (k=2)then 1 else 0)+om ks
def bits:Nat->Nat->Nat
 |0,_=>0
 |c+1,n=>bif Nat.beq n 0 then 0 else 1+bits c (n/2)
theorem Su(l:List Int)(f:Nat):VJ l 0 f=f:=by cases l<;>simp[VJ]
theorem Cd:∀(p:Pt)(rest:List Int)(left:Int)(f:Nat),0<=left->VJ (kinds p++rest) (left+1) f=VJ rest left (f+facts p):=by
 intro p
 induction p with
 |fact=>intro rest left f h;simp[kinds,VJ,facts,show(left+1>0)from O]
 |closed=>intro rest left f h;simp[kinds,VJ,facts,show(left+1>0)from O]
 |node l r a b=>intro rest left f h;simp only[kinds,List.cons_append,VJ,bK (O:(left+1>0)),cond_true,decide_true,show decide ((1:Int)=2)=false from rfl,cond_false];rw[show left+1-1+2=(left+1)+1 by omega,List.append_assoc,a _ _ _ O,b _ _ _ h,facts,Nat.add_assoc]
theorem I1:∀(p:Pt)(rest:List Int),uG (kinds p++rest)=(sQ p||uG rest):=by
 intro p
 induction p with
 |fact=>intro rest;simp[kinds,uG,sQ]
 |closed=>intro rest;simp[kinds,uG,sQ]
 |node l r a b=>intro rest;simp only[kinds,List.cons_append,uG,decide_true,Bool.true_and,sQ];rw[List.append_assoc,a,b,show(2:Int)=(1:Int)+1 from rfl,Cd l _ 1 0 O,show(1:Int)=(0:Int)+1 from rfl,Cd r _ 0 _ O,Su];simp only[Nat.zero_add,Bool.or_assoc]
theorem FT:∀(p:Pt)(rest:List Int),om (kinds p++rest)=facts p+om rest:=by
 intro p
 induction p with
 |fact=>intro rest;simp[kinds,om,facts]
 |closed=>intro rest;simp[kinds,om,facts]
 |node l r a b=>intro rest;simp only[kinds,List.cons_append,om,facts,show decide ((1:Int)=2)=false from rfl,cond_false,Nat.zero_add];rw[List.append_assoc,a,b,Nat.add_assoc]
theorem NK:∀p:Pt,(kinds p).length=2*opens p+1:=by
 intro p
 induction p with
 |fact=>rfl
 |closed=>rfl
 |node l r a b=>simp only[kinds,List.length_cons,List.length_append,a,b,opens];omega
theorem Sv:∀p:Pt,sQ p=false->opens p<=facts p*lE p:=by
 intro p
 induction p with
 |fact=>intro _;simp[opens]
 |closed=>intro _;simp[opens]
 |node l r a b=>
  intro h;simp only[sQ,Bool.or_eq_false_iff]at h;have c:facts l+facts r≠0:=λe=>by rw[e]at h;exact absurd h.1 zC
  have d:=a h.2.1;have f:=b h.2.2;have a1:facts l*lE l<=facts l*max (lE l) (lE r):=Nat.mul_le_mul_left _ (Nat.le_max_left _ _);have a2:facts r*lE r<=facts r*max (lE l) (lE r):=Nat.mul_le_mul_left _ (Nat.le_max_right _ _);simp only[opens,facts,lE,Nat.mul_add,Nat.mul_one,Nat.add_mul];omega
theorem small(p:Pt)(m h:Nat)(i:opens p+1<=m)(a:lE p<=h)(d:Nat)(b:h<=d):
  (kinds p).length<=2*m-1/\(uG (kinds p)=true∨(kinds p).length<=max 1 (om (kinds p)+2*om (kinds p)*d)):=by
 have c:=NK p;have e:om (kinds p)=facts p:=by have:=FT p [];simpa [om]using this
 have f:uG (kinds p)=sQ p:=by have:=I1 p [];simpa [uG]using this
 refine⟨O,?_⟩;rw[f,e,c];cases hi:sQ p with
 |true=>exact .inl A
 |false=>
  right;have h3:=Sv p hi;by_cases g:facts p=0
  ·rw[g]at h3⊢;simp at h3;rw[h3];simp
  ·have h4:facts p*lE p<=facts p*d:=Nat.mul_le_mul_left _ (Nat.le_trans a b);have:2*opens p+1<=facts p+2*facts p*d:=by
    rw[Nat.mul_assoc];omega
   omega
end Go.Sx.Small
end
section
namespace Go.Sx
open Small
structure Piece where
 (k:Int) (x:ao) (nd:Node)
def FU:Node:=⟨λ_=>0,λ_=>0,[],[]⟩
def jD(n:Node):Piece:=⟨3,dp,n⟩
def wF(x:ao):Piece:=⟨2,x,FU⟩
def dj:Piece:=⟨1,dp,FU⟩
def cA(p:Piece):List AV:=.int .i64 p.k::(aB p.x++di p.nd)
def aR(ex:Node->Bool):Tree->List Piece
 | .leaf x=>match ex (aO x)with|true=>[jD (aO x)]|false=>[wF x]
 | .node l r=>match ex (bc (aq l) (aq r))with
  |true=>[jD (bc (aq l) (aq r))]
  |false=>dj::(aR ex l++aR ex r)
def zo(ex:Node->Bool):Tree->Pt
 | .leaf x=>match ex (aO x)with|true=> .closed|false=> .fact
 | .node l r=>match ex (bc (aq l) (aq r))with
  |true=> .closed
  |false=> .node (zo ex l) (zo ex r)
def l8:Tree->Nat
 | .leaf _=>1
 | .node l r=>l8 l+l8 r
def DL:Tree->Nat
 | .leaf _=>0
 | .node l r=>1+max (DL l) (DL r)
theorem uH(ex):∀t,(aR ex t).map Piece.k=kinds (zo ex t)
 | .leaf x=>by unfold aR zo;split<;>rfl
 | .node l r=>by
  unfold aR zo;split
  ·rfl
  ·simp only[List.map_cons,List.map_append,uH ex l,uH ex r,kinds];rfl
theorem tx:∀t,1<=l8 t
 | .leaf _=>dP _
 | .node l r=>by have:=tx l;unfold l8;omega
theorem zp:∀(d n)(F)(e),cq d n=true->n<=2^e->l8 (bp d n F)=n/\DL (bp d n F)<=e:=by
 intro d
 induction d with
 |zero=>intro n F e h _;simp only[cq,ba]at h;have a:=fT h.1;have b:=fT h.2;simp at b;omega
 |succ d f=>
  intro n F e h g;simp only[cq,ba]at h;have a:=fT h.1;have b:=fT h.2;unfold bp;cases j:Nat.ble n 1 with
  |true=>have:=fT j;exact⟨by show 1=n;omega,Nat.zero_le _⟩
  |false=>
   have c:2<=n:=Y;have l:=mX c;have hl:=r7 (d:=d) c O;cases e with
   |zero=>simp at g;omega
   |succ e=>
    have k:=r7 (d:=e+1) c g;have m:2^(e+1)=2*2^e:=by rw[Nat.pow_succ];omega
    obtain⟨l1,l2⟩:=f (bP n) F e (by simp only[cq,ba];simp_all) O;obtain⟨r1,o⟩:=f (n-bP n) (λi=>F (bP n+i)) e (by simp only[cq,ba];exact⟨il O,il O⟩) O;simp only[l8,DL];omega
end Go.Sx
end
section
set_option maxRecDepth 1000000
namespace Go.Sx
open Go
def kw(nw:Nat)(C:Nat->Nat->Int):Bool:=decide (nw<=6)&&(List.range nw).all λj=>decide (1<=C j 0)&&decide (C j 0<=8)&&decide (1<=C j 1)&&decide (C j 1<=4)
theorem zr:∀(cs),wb cs=true->cs=(List.range cs.length).map λj=>AV.int .i64 (dn cs j)
 |[],_=>rfl
 | .int .i64 i::cs,h=>by have a:=zr cs h;rw[List.length_cons,List.range_succ_eq_map,List.map_cons,List.map_map];show AV.int .i64 i::cs=AV.int .i64 i::_;rw[List.cons.injEq];exact⟨rfl,a⟩
theorem Sw{cs}(h:wb cs=true)(hl:cs.length=16):cs=cD (λj=>dn cs j) (λj=>dn cs (8+j)):=by
 have:=zr cs h;rw[hl]at this;exact this
theorem NL{cs}(h:wb cs=true)(σ):bj.bx σ cs=cs:=by
 rw[zr cs h];generalize List.range cs.length=l
 induction l with
 |nil=>rfl
 |cons i l a=>simp only[List.map_cons,bj.bx,a];rfl
noncomputable def qt:ax PP II:=ax.pure 34
 (λX args c=>match args with
  |[.agg [.ae nw 3 f,.ae ng 1 g,.int .i64 a,.int .i64 fl,.str nu,.str de,.int .i64 top],.agg cs]=>X.ag (ar 3 nw f&&ar 1 ng g) (X.ag (kw nw (aF f)&&wb cs&&Nat.beq cs.length 16) (c (.bool (iL nw (aF f) cs))))
  |_=>X.fail)
 λX sem hX args c h=>by
  split at h
  ·rename_i nw f ng g a fl nu de top cs;obtain⟨b,i⟩:=hX.ag _ _ h;obtain⟨h3,h4⟩:=hX.ag _ _ i;simp only[ba,kw,bl]at b h3;obtain⟨⟨⟨k,l⟩,d⟩,m⟩:=h3;have e:=Sw d (by simp_all);refine⟨_,h4,λ_=>rfl,λσ=>?_,?_⟩
   ·show [_,AV.agg (bj.bx σ cs)]=_;rw[NL d];rfl
   ·have:=VI ⟨nw,aF f,ng,λj=>cT (g j) 0,a,fl,nu,de,top⟩ (λj=>dn cs j) (λj=>dn cs (8+j)) k (λj n=>by
     grind)
    rw[<-e]at this;refine this.cS ⟨kO b.1 b.2,?_,trivial⟩;rw[e];exact⟨⟨rfl,rfl⟩,⟨rfl,rfl⟩,⟨rfl,rfl⟩,⟨rfl,rfl⟩,⟨rfl,rfl⟩,⟨rfl,rfl⟩,⟨rfl,rfl⟩,⟨rfl,rfl⟩,⟨rfl,rfl⟩,⟨rfl,rfl⟩,⟨rfl,rfl⟩,⟨rfl,rfl⟩,⟨rfl,rfl⟩,⟨rfl,rfl⟩,⟨rfl,rfl⟩,⟨rfl,rfl⟩,trivial⟩
  ·exact zR
end Go.Sx
end
