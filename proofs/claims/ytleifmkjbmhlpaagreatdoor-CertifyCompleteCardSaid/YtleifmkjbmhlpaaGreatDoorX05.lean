/- The proof of a statement of the seat, part 5. -/
import Derived.RangeFuncRecord
import Derived.ScopeJumps
import Derived.Lib.UnsafeStr
import Derived.Maps.RangeRun
import Derived.Test.YtleifmkjbmhlpaaGreatDoorX04
set_option linter.all false
set_option linter.defProp false
set_option maxRecDepth 1000000
namespace Go.Sx
open Go
open Option renaming some->M,none->e_,bind_some->s_
open Decidable renaming decide->z
open _root_.Array renaming ext'->a_,getD_eq_getD_getElem?->b_,toList_setIfInBounds->l_,length_toList->q_,replicate->u_
open Nat renaming beq->c_,blt->f_,blt_eq->i_,zero_add->o_,le_trans->p_,zero_mul->B_,ble->C_
open List renaming range->d_,range'->h_,length_nil->k_,set_eq_of_length_le->m_,map_cons->n_,getElem?_drop->t_,map_fst_zip->v_,map_snd_zip->w_,length_map->x_,drop_drop->y_,map_nil->A_,mapM->D_
open Function renaming comp_def->g_
open Classical renaming byContradiction->j_
noncomputable section
section
inductive CO where
 |ret (a:AV) (H:AH)
 |rL (a:AV) (H:AH)
def CO.sem{R:Type}(sem:R->Prop)(b kp:AV->AH->R):CO->Prop
 | .ret a H=>sem (b a H)
 | .rL a H=>sem (kp a H)
def WF(ro:Option Nat):Fence:={Fence.wide with round:=ro}
def CO.post(o:CO)(c:fE)(ρ:Env)(e:Ending)(w':World):Prop :=
 match o,e with
 | .ret a H,.returned v=> ∃ρ',Ext ρ ρ'/\Rel c ρ' H w'/\VR ρ' a v
 | .rL a H,.panicked b=> ∃ρ' v,b=[{v,recovered:=false}]/\Ext ρ ρ'/\Rel c ρ' H w'/\VR ρ' a v
 |_,_=>False
def af(P:Program)(I:bg)(f:FuncId)(args:List AV)(H:AH)(o:CO):Prop :=
 ∀c ρ w vs,c.G=I.G->aV ρ args vs->Rel c ρ H w->
  ((callFunc f vs.toArray).run P w= .ok (.enter f vs.toArray) w/\Calls P f vs.toArray w (o.post c ρ))∨
  (∃v w',(callFunc f vs.toArray).run P w= .ok (.value v) w'/\o.post c ρ (.returned v) w')
abbrev j6(R:Type):=FuncId->List AV->AH->(AV->AH->R)->(AV->AH->R)->R
def jq{R:Type}(P:Program)(I:bg)(sem:R->Prop)(a:j6 R):Prop :=
 ∀f args H b kp,sem (a f args H b kp)->∃o:CO,o.sem sem b kp/\af P I f args H o
def Hx(P:Program)(I:bg)(l:Nat)(args:List AV)(H:AH)(a:AV)(H':AH):Prop :=
 ∀c ρ w vs b N,c.G=I.G->aV ρ args vs->Rel c ρ H w->ρ l=M (b,N)->
  ∃f tmps as d,(Instr.yield b vs.toArray).run P w= .ok (.round b f tmps as d) w/\∀n,RoundIn (WF e_) n P b f tmps as d w ((CO.ret a H').post c ρ)
abbrev iU(R:Type):=Nat->List AV->AH->(AV->AH->R)->R
def iV{R:Type}(P:Program)(I:bg)(sem:R->Prop)(round:iU R):Prop :=
 ∀l args H b,sem (round l args H b)->∃a H',sem (b a H')/\Hx P I l args H a H'
section
variable {R:Type} {X:RI R} {sem:R->Prop} (hX:X.Ok sem) {I:bg} {P:Program} (hI:I.Ok P)
def Uj(X:RI R)(I:bg)(d:j6 R)(round:iU R)(o:Oper)(ev:Operand->AV)(H:AH)(c kp:AV->AH->R):R :=
 match o.op with
 | .store t a x=>vd X I t (ev a) (ev x) H (λH'=>c (.bM []) H')
 | .mapUpdate t m k v=>Pv X I t (ev m) (ev k) (ev v) H (λH'=>c (.bM []) H')
 | .insert t m k v=>mH X I t (ev m) (ev k) (ev v) H (λH'=>c (.bM []) H')
 | .panic x=>match ev x with
  | .iface t v=>kp (.iface t v) H
  |_=>X.fail
 | .call {callee:=.value f,args,..}=>match ev f with
  | .fn g first h=>d g (first++args.toList.map ev++h) H c kp
  | .yield l=>round l (args.toList.map ev) H c
  |_=>X.fail
 | .call {callee:=.builtin .append,args,argTypes}=>match args.toList,argTypes.toList with
  |[a,b],[s,t]=>CS X I s t (ev a) (ev b) H c
  |_,_=>X.fail
 | .call {callee:=.builtin .copy,args,argTypes}=>match args.toList,argTypes.toList with
  |[a,b],s::_=>Ps X I s (ev a) (ev b) H c
  |_,_=>X.fail
 | .call {callee:=.builtin .unsafeSliceData,args,..}=>match args.toList with
  |[a]=>match ev a with
   | .aD=>c .nilPtr H
   | .own l len e=>X.ag (z (0<len)) (c (.ptr l 0 e 0) H)
   |_=>X.fail
  |_=>X.fail
 | .call {callee:=.builtin .unsafeString,args,argTypes}=>match args.toList,argTypes.toList with
  |[p,n],[q,_]=>match ev p,ev n with
   | .nilPtr,.int .i64 m=>X.ag (z (m=0)) (c (.str []) H)
   | .ptr l k e j,.int .i64 m=>match I.eI q,(H.get l).acc with
    |some (.pointer u),.ty t=>match I.size u,(H.get l).bytes 0 m.toNat with
     |some 1,M (ok,r)=>X.ag (ok&&c_ t u&&c_ (k*e+j) 0&&z (0<m)&&z (m<=9223372036854775807)&&(H.get l).rw) (c (.str r) (H.set l .dead))
     |_,_=>X.fail
    |_,_=>X.fail
   |_,_=>X.fail
  |_,_=>X.fail
 | .range t x=>match I.eI t,ev x with
  |some (.map _ _),.map (M l)=>match H.get l with
   | .map []=>c (.ptr H.n 0 0 0) (H.new (.iter l))
   | .jn n _=>c (.ptr H.n 0 0 0) (H.new (.gy l n []))
   |_=>X.fail
  |_,_=>X.fail
 | .next it false=>match ev it with
  | .ptr i 0 0 0=>match H.get i with
   | .iter l=>match H.get l with
    | .map []=>c (.bM [.bool false]) H
    |_=>X.fail
   |_=>X.fail
  |_=>X.fail
 | .entry it=>match ev it with
  | .ptr i 0 0 0=>match H.get i with
   | .gy l n (j::_)=>match H.get l with
    | .jn m f=>X.ag (c_ n m&&f_ j n) (c (.bM [.int .i64 (f j),.bool true]) H)
    |_=>X.fail
   |_=>X.fail
  |_=>X.fail
 |_=>Es X I o ev H c
theorem xW{n j f}(h:j<n):({key:=.int .i64 (f j),val:=.bool true,born:=j}:MapEntry)∈(ec n f).toArray.toList :=
 List.mem_map.2 ⟨j,List.mem_range.2 h,rfl⟩
theorem CW(n)(f):((ec n f).toArray.toList.map (·.born)).Nodup:=by
 have:(ec n f).toArray.toList.map (·.born)=d_ n:=by simp[ec,g_]
 grind
def tU(P:Program)(I:bg)(o:Oper)(ev:Operand->AV)(H:AH)(out:CO):Prop :=
 ∀ro n c ρ w (a:Act) (next:Act->World->Prop) (Q:Exit->Act->World->Prop),c.G=I.G->(∀x,VR ρ (ev x) (a.eval x))->Rel c ρ H w->
  (∀v H' u w' ρ',out= .ret v H'->Ext ρ ρ'->Rel c ρ' H' w'->VR ρ' v u->next (a.put o.dst u) w')->
  (∀v H' u w' ρ',out= .rL v H'->Ext ρ ρ'->Rel c ρ' H' w'->VR ρ' v u->Q (.panic [{v:=u,recovered:=false}]) a w')->
  o.wpIn (WF ro) n P a w next Q
theorem jr{o:Oper}{w}{a:Act}{P ro}:∀f,o.about P w a.eval=M f->(WF ro).fn f:=λ_ _=>trivial
theorem xX{o ev H K}(hX:X.Ok sem)(h:sem (Es X I o ev H K)):∀c,o.op≠ .defer c:=by
 intro c a;unfold Es at h;rw[a]at h;exact hX.fail h
include hX hI in
theorem Uk{o:Oper}{ev:Operand->AV}{H:AH}{b kp:AV->AH->R}(h:sem (Es X I o ev H b)):∃out:CO,out.sem sem b kp/\tU P I o ev H out:=by
 have d:=xX hX h;obtain⟨v,H',e,f⟩:=CM hX hI h;refine⟨.ret v H',e,λro n c ρ w a next Q hG g i j p=>⟨jr,?_⟩⟩;obtain⟨u,w',ρ',k,l,m,e4,_⟩:=f c ρ w a.eval g i;rw[Oper.semAt_eq _ _ _ d,k,Oper.uponIn_value];exact j v H' u w' ρ' A l m e4
theorem CX{o ev H H'}{s:(Operand->Value)->Sem Unit}(b:∀c,o.op≠ .defer c)(d:∀e,execOp e o=(do s e;pure .skip))
  (h:∀c ρ w (e),(∀x,VR ρ (ev x) (e x))->Rel c ρ H w->∃w',(s e).run P w= .ok () w'/\Rel c ρ H' w'):tU P I o ev H (.ret (.bM []) H'):=by
 intro ro n c ρ w a next Q hG f g i l
 refine⟨jr,?_⟩;obtain⟨w',j,k⟩:=h c ρ w a.eval f g;rw[Oper.semAt_eq _ _ _ b,d];simp only[Sem.run_bind,j,Result.andThen_ok,Sem.run_pure,Oper.uponIn_skip];exact i _ _ _ w' ρ A (Ext.refl _) k (by simp only[VR];exact⟨[],rfl,zH⟩)
theorem js{o ev H H' v}(d:∀c,o.op≠ .defer c)
  (h:∀c ρ w (e),(∀x,VR ρ (ev x) (e x))->Rel c ρ H w->∃b w' ρ',(execOp e o).run P w= .ok (.value b) w'/\Ext ρ ρ'/\Rel c ρ' H' w'/\VR ρ' v b):tU P I o ev H (.ret v H'):=by
 intro ro n c ρ w a next Q hG f g j k
 refine⟨jr,?_⟩;obtain⟨b,w',ρ',i,l,m,e4⟩:=h c ρ w a.eval f g;rw[Oper.semAt_eq _ _ _ d,i,Oper.uponIn_value]
 grind
include hX hI in
theorem Hy{b5:j6 R}(b6:jq P I sem b5){round:iU R}(b4:iV P I sem round){o:Oper}{ev:Operand->AV}{H:AH}{kn kp:AV->AH->R}(h:sem (Uj X I b5 round o ev H kn kp)):
  ∃out:CO,out.sem sem kn kp/\tU P I o ev H out:=by
 unfold Uj at h;split at h
 ·rename_i t a x G;obtain⟨H',U,V⟩:=rI hX hI h;refine⟨.ret (.bM []) H',U,CX (s:=λe=>Instr.storeAt t (e a) (e x)) (by simp[G]) (λe=>by simp[execOp,G]) λc ρ w e D K=>V c ρ w _ _ (D a) (D x) K⟩
 ·rename_i t m k v G;obtain⟨H',U,V⟩:=Pw hX hI h;refine⟨.ret (.bM []) H',U,CX (s:=λe=>Instr.mapUpdate t (e m) (e k) (e v)) (by simp[G]) (λe=>by simp[execOp,G]) λc ρ w e D K=>V c ρ w _ _ _ (D m) (D k) (D v) K⟩
 ·rename_i t m k v G;obtain⟨H',U,V⟩:=ob hX hI h;refine⟨.ret (.bM []) H',U,CX (s:=λe=>Instr.mapUpdate t (e m) (e k) (e v)) (by simp[G]) (λe=>by simp[execOp,G]) λc ρ w e D K=>V c ρ w _ _ _ (D m) (D k) (D v) K⟩
 ·rename_i x G;split at h
  ·rename_i t v hx;refine⟨.rL (.iface t v) H,h,λro n c ρ w a next Q hG D K hn hp=>⟨jr,?_⟩⟩;have y:=D x;rw[hx]at y;have cr:=y;simp only[VR]at cr;obtain⟨u,hu,_⟩:=cr;have L:(execOp a.eval o).run P w= .halt (.panic (.iface t u)) w:=by
    simp only[execOp,G,hu,Instr.panic];simp[goPanic,Sem.run]
   rw[Oper.semAt_eq _ _ _ (by simp[G]),L,Oper.uponIn_panic];rw[hu]at y;exact hp _ _ _ w ρ A (Ext.refl _) K y
  ·exact zR
 ·rename_i f args aa G;have ad:∀{ρ:Env}{e:Operand->Value},(∀x,VR ρ (ev x) (e x))->aV ρ (args.toList.map ev) (args.toList.map e):=λD=>aV.of_map D args.toList
  split at h
  ·rename_i g first ee hf
   obtain⟨out,U,V⟩:=b6 _ _ _ _ _ h;refine⟨out,U,λro n c ρ w a next Q hG D K hn hp=>⟨jr,?_⟩⟩;have y:=D f;rw[hf]at y;simp only[VR]at y;obtain⟨us,vs,b7,cv,cx⟩:=y;have L:(execOp a.eval o).run P w=(callFunc g (us++args.toList.map a.eval++vs).toArray).run P w:=by
    have W:us.toArray++args.map a.eval++vs.toArray=(us++args.toList.map a.eval++vs).toArray:=by apply a_;simp
    simp only[execOp,G,resolve,b7,Deferred.ofValue,Sem.run_bind,Sem.run_pure,Result.andThen_ok,invoke,W]
   rw[Oper.semAt_eq _ _ _ (by simp[G]),L];rcases V c ρ w _ hG ((cv.append (ad D)).append cx) K with⟨k1,k2⟩|⟨v,w',k1,k2⟩
   ·rw[k1,Oper.uponIn_enter];refine⟨λhh=>by simp[WF,Fence.wide]at hh,?_⟩;have:CallsIn Fence.wide (n-1) P g (us++args.toList.map a.eval++vs).toArray w (out.post c ρ):=callsIn_wide.2 k2;refine CallsIn.mono (F:=WF ro) (show CallsIn (WF ro) (n-1) P g _ w (out.post c ρ)from this) λe w' J=>?_
    cases out with
    |ret v H'=>
     cases e with
     |returned u=>obtain⟨ρ',p1,p2,p3⟩:=J;exact hn v H' u w' ρ' A p1 p2 p3
     |panicked ch=>exact J.elim
     |outgrown=>exact J.elim
    |rL v H'=>
     cases e with
     |returned u=>exact J.elim
     |panicked ch=>obtain⟨ρ',u,rfl,p1,p2,p3⟩:=J;exact hp v H' u w' ρ' A p1 p2 p3
     |outgrown=>exact J.elim
   ·rw[k1,Oper.uponIn_value];cases out with
    |ret v' H'=>obtain⟨ρ',p1,p2,p3⟩:=k2;exact hn v' H' v w' ρ' A p1 p2 p3
    |rL v' H'=>exact k2.elim
  ·rename_i l hf;obtain⟨b,H',U,V⟩:=b4 _ _ _ _ h;refine⟨.ret b H',U,λro n c ρ w a next Q hG D K hn hp=>⟨jr,?_⟩⟩;have y:=D f;rw[hf]at y;simp only[VR]at y;obtain⟨bb,N,hl,b7⟩:=y;obtain⟨fn,tmps,as,bd,k1,k2⟩:=V c ρ w _ bb N hG (ad D) K hl;have L:(execOp a.eval o).run P w= .ok (.round bb fn tmps as bd) w:=by
    have W : #[]++args.map a.eval=(args.toList.map a.eval).toArray:=by apply a_;simp
    simp only[execOp,G,resolve,b7,Deferred.ofValue,Sem.run_bind,Sem.run_pure,Result.andThen_ok,invoke,W];exact k1
   rw[Oper.semAt_eq _ _ _ (by simp[G]),L,Oper.uponIn_round];refine⟨λhh=>by simp[WF,Fence.wide]at hh,?_⟩;refine RoundIn.mono (F:=WF ro) (show RoundIn (WF ro) (n-1) P bb fn tmps as bd w ((CO.ret b H').post c ρ)from k2 (n-1)) λe w' J=>?_
   cases e with
   |returned u=>obtain⟨ρ',p1,p2,p3⟩:=J;exact hn b H' u w' ρ' A p1 p2 p3
   |panicked ch=>exact J.elim
   |outgrown=>exact J.elim
  ·exact zR
 ·rename_i args aa G;split at h
  ·rename_i a b s t ha ap;obtain⟨v,H',U,V⟩:=Hw hX hI h;refine⟨.ret v H',U,js (by simp[G]) λc ρ w e D K=>?_⟩;obtain⟨v',w',ρ',k1,k2⟩:=V c ρ w (e a) (e b) o.type (D a) (D b) K;have W:args.map e= #[e a,e b]:=by apply a_;simp[ha]
   have e2:aa= #[s,t]:=by apply a_;simp[ap]
   refine⟨v',w',ρ',?_,k2⟩;simp only[execOp,G,resolve,Sem.run_bind,Sem.run_pure,Result.andThen_ok,invoke,builtin,W,e2,k1]
  ·exact zR
 ·rename_i args aa G;split at h
  ·rename_i a b s ts ha ap;obtain⟨v,H',U,V⟩:=Pu hX hI h;refine⟨.ret v H',U,js (by simp[G]) λc ρ w e D K=>?_⟩;obtain⟨v',w',ρ',k1,k2⟩:=V c ρ w (e a) (e b) aa o.type (by rw[<-Array.getElem?_toList,ap];rfl) (D a) (D b) K;have W:args.map e= #[e a,e b]:=by apply a_;simp[ha]
   refine⟨v',w',ρ',?_,k2⟩;simp only[execOp,G,resolve,Sem.run_bind,Sem.run_pure,Result.andThen_ok,invoke,builtin,W,k1]
  ·exact zR
 ·rename_i args aa G;split at h
  ·rename_i a ha;have W:∀e:Operand->Value,args.map e= #[e a]:=λe=>by apply a_;simp[ha]
   split at h
   ·rename_i hx;refine⟨.ret .nilPtr H,h,js (by simp[G]) λc ρ w e D K=>?_⟩;have y:=D a;rw[hx]at y;simp only[VR]at y;refine⟨.pointer e_,w,ρ,?_,Ext.refl _,K,zB⟩;simp only[execOp,G,resolve,Sem.run_bind,Sem.run_pure,Result.andThen_ok,invoke,builtin,W,y,Lib.run_unsafeSliceData_nil]
   ·rename_i l len e0 hx;obtain⟨U,V⟩:=hX.ag _ _ h;simp only[bl]at U;refine⟨.ret (.ptr l 0 e0 0) H,V,js (by simp[G]) λc ρ w e D K=>?_⟩;have y:=D a;rw[hx]at y;simp only[VR]at y;rcases y with⟨h0,_⟩|⟨b,N,cc,hb,y,hle,_⟩
    ·omega
    ·refine⟨.pointer (M ⟨b,0,e_⟩),w,ρ,?_,Ext.refl _,K,by simp only[VR];exact⟨b,N,hb,zA⟩⟩;have a6:∀ts ty,(Builtin.unsafeSliceData_ ts ty #[.slice (M ⟨b,0,e_⟩) len cc]).run P w= .ok (.pointer (M ⟨b,0,e_⟩)) w:=λts ty=>Lib.run_unsafeSliceData_row w ts ty _ _ _ O
     simp only[execOp,G,resolve,Sem.run_bind,Sem.run_pure,Result.andThen_ok,invoke,builtin,W,y,a6]
   ·exact zR
  ·exact zR
 ·rename_i args aa G;split at h
  ·rename_i p n pt it ha ap;have W:∀e:Operand->Value,args.map e= #[e p,e n]:=λe=>by apply a_;simp[ha]
   have e2:aa= #[pt,it]:=by apply a_;simp[ap]
   split at h
   ·rename_i m hp hn;obtain⟨U,V⟩:=hX.ag _ _ h;simp only[bl]at U;subst U;refine⟨.ret (.str []) H,V,js (by simp[G]) λc ρ w e D K=>?_⟩;have Y:=D p;have Z:=D n;rw[hp]at Y;rw[hn]at Z;simp only[VR]at Y Z;refine⟨.string .empty,w,ρ,?_,Ext.refl _,K,by simp only[VR];rfl⟩;simp only[execOp,G,resolve,Sem.run_bind,Sem.run_pure,Result.andThen_ok,invoke,builtin,W,e2,Y,Z,Lib.run_unsafeString_none]
   ·rename_i l k e0 j m hp hn;split at h
    ·rename_i u t hu C;split at h
     ·rename_i ok bs c6 c7;obtain⟨U,V⟩:=hX.ag _ _ h;simp only[ba,bl]at U;obtain⟨⟨⟨⟨⟨rfl,b8⟩,a7⟩,ef⟩,eg⟩,dd⟩:=U;have b8:=dV b8;have a7:=dV a7;subst b8;refine⟨.ret (.str bs) (H.set l .dead),V,js (by simp[G]) λc ρ w e D K=>?_⟩;have Y:=D p;have Z:=D n;rw[hp]at Y;rw[hn]at Z;simp only[VR]at Y Z;obtain⟨b,N,hb,Y⟩:=Y;have E:=K.eB l;rw[hb]at E;obtain⟨b1,b2,b3⟩:=aae.xM E c7;have dk:w.shape? b=M (t,N):=by
       cases hx:H.get l with
       |cells cs a=>rw[hx]at E C;simp only[aae.acc]at C;obtain⟨el,s1,_,s3⟩:=aE.shape E;rw[s3 _ C]at s1;exact s1
       |rows q e2 f a=>rw[hx]at E C;simp only[aae.acc]at C;obtain⟨el,s1,_,s3⟩:=aE.shape E.2;rw[s3 _ C]at s1;exact s1
       |str q a=>rw[hx]at E C;simp only[aae.acc]at C;obtain⟨el,s1,_,s3⟩:=aE.shape E;rw[s3 _ C]at s1;exact s1
       |map=>rw[hx]at C;simp only[aae.acc]at C;split at C<;>cases C
       |loop|tL|iter|jn|gy|dK|dead=>rw[hx]at C;simp[aae.acc]at C
      obtain⟨i,i1,i2⟩:=hI.size _ _ c6;have hc:P.cellsOf t=1:=by simp[Program.cellsOf,i1,i2]
      have dr:bs≠[]:=λe=>by rw[e]at b1;simp at b1;omega
      have hm:m=(bs.length:Int):=by rw[b1];omega
      have L:(Builtin.unsafeString_ #[pt,it] o.type #[.pointer (M ⟨b,0,e_⟩),.int .i64 bs.length]).run P w= .ok (.string ⟨bs.toArray⟩) (w.freeze ⟨b,0,e_⟩ bs.length):=
       Lib.run_unsafeString_row w pt it o.type t (hI.eI _ _ hu) hc b N dk bs dr O O λj x hx=>by obtain⟨hj,dt⟩:=List.getElem?_eq_some_iff.1 hx;have:=b3 j hj;rw[addr_add,this,dt]
      refine⟨.string ⟨bs.toArray⟩,w.freeze ⟨b,0,e_⟩ bs.length,ρ,?_,Ext.refl _,?_,zB⟩
      ·rw[hm]at Z;rw[a7]at Y;simp only[execOp,G,resolve,Sem.run_bind,Sem.run_pure,Result.andThen_ok,invoke,builtin,W,e2,Y,Z,L]
      ·refine K.gX .dead dd hb (λk hk=>?_) ?_ ?_ ?_ ?_ trivial
       ·unfold World.freeze;split
        ·rfl
        ·simp only[Array.getElem?_modify];rw[if_neg (λe=>hk e.symm)]
       all_goals(unfold World.freeze;split<;>simp)
     ·exact zR
    ·exact zR
   ·exact zR
  ·exact zR
 ·rename_i t x G;split at h
  ·rename_i kt vt l ht hx;split at h
   ·rename_i hl;refine⟨.ret (.ptr H.n 0 0 0) (H.new (.iter l)),h,js (by simp[G]) λc ρ w e D K=>?_⟩;have y:=D x;rw[hx]at y;simp only[VR]at y;obtain⟨m,d,hm,y⟩:=y;have E:=K.eB l;rw[hl,hm]at E;obtain⟨b,N,ms,T,W,e2,Em,_⟩:=E;have e3:=(Em.plain A).1;cases W;have b9:l≠H.n:=λe=>by rw[e,K.top _ (dP _)]at hm;cases hm
    obtain⟨cd,a6⟩:=K.new (.mapIter (M m) T #[] T) 0 (.iter l) λw' cf=>
     ⟨_,_,m,d,T,T,rfl,by rw[Env.fe _ _ b9];exact hm,dP _,cf⟩
    refine⟨_,_,_,?_,cd,a6,by simp only[VR];exact⟨w.heap.size,0,Env.da _ _ _,rfl⟩⟩;simp only[execOp,G,y,Sem.run_bind,Go.run_range_map w t kt vt m ms.toArray T (hI.eI _ _ ht) e2,Result.andThen_ok,Sem.run_pure];rfl
   ·rename_i n f hl;refine⟨.ret (.ptr H.n 0 0 0) (H.new (.gy l n [])),h,js (by simp[G]) λc ρ w e D K=>?_⟩;have y:=D x;rw[hx]at y;simp only[VR]at y;obtain⟨m,d,hm,y⟩:=y;have E:=K.eB l;rw[hl,hm]at E;obtain⟨b,N,W,e2⟩:=E;cases W;have b9:l≠H.n:=λe=>by rw[e,K.top _ (dP _)]at hm;cases hm
    obtain⟨cd,a6⟩:=K.new (.mapIter (M m) n #[] n) 0 (.gy l n []) λw' cf=>
     ⟨_,_,m,d,rfl,by rw[Env.fe _ _ b9];exact hm,cf⟩
    refine⟨_,_,_,?_,cd,a6,by simp only[VR];exact⟨w.heap.size,0,Env.da _ _ _,rfl⟩⟩;simp only[execOp,G,y,Sem.run_bind,Go.run_range_map w t kt vt m _ n (hI.eI _ _ ht) e2,Result.andThen_ok,Sem.run_pure];rfl
   ·exact zR
  ·exact zR
 ·rename_i it G;split at h
  ·rename_i i cg;split at h
   ·rename_i l hi;split at h
    ·rename_i hl;refine⟨.ret (.bM [.bool false]) H,h,js (by simp[G]) λc ρ w e D K=>?_⟩;have y:=D it;rw[cg]at y;simp only[VR]at y;obtain⟨r,R',cp,y⟩:=y;have bq:=K.eB i;rw[hi,cp]at bq;obtain⟨b,N,m,d,since,last,W,e2,e3,e4⟩:=bq;cases W;have b0:=K.eB l;rw[hl,e2]at b0;obtain⟨b2,N2,ms,T,f1,f2,dv,_⟩:=b0;have f3:=(dv.plain A).1;cases f1;have ea:ms=[]:=by
      have:=f3.length_eq;simp only[A_,k_,x_]at this;exact List.eq_nil_of_length_eq_zero this.symm
     subst ea;refine⟨_,w,ρ,?_,Ext.refl _,K,by simp only[VR];exact⟨[.bool false],rfl,aV.aM.2 ⟨zB,zH⟩⟩⟩;rcases Go.run_next_at (P:=P) w o.type r m since last #[] #[] T e4 f2 zA e3 with⟨_,L⟩|⟨x,hx,_⟩
     ·simp only[B_,o_]at y;simp only[execOp,G,y,Sem.run_bind,L,Result.andThen_ok,Sem.run_pure]
     ·simp[leftOf]at hx
    ·exact zR
   ·exact zR
  ·exact zR
 ·rename_i it G;split at h
  ·rename_i i cg;split at h
   ·rename_i l n j S hi;split at h
    ·rename_i m f hl;obtain⟨h0,U⟩:=hX.ag _ _ h;simp only[ba]at h0;obtain⟨V,h3⟩:=h0;have eb:=dV V;subst eb;have ed:j<n:=by simpa [f_,Nat.succ_le_iff]using h3
     refine⟨.ret (.bM [.int .i64 (f j),.bool true]) H,U,js (by simp[G]) λc ρ w e D K=>?_⟩;have y:=D it;rw[cg]at y;simp only[VR]at y;obtain⟨r,R',cp,y⟩:=y;have bq:=K.eB i;rw[hi,cp]at bq;obtain⟨b,N,m,d,W,e2,e3⟩:=bq;cases W;have b0:=K.eB l;rw[hl,e2]at b0;obtain⟨b2,N2,f1,f2⟩:=b0;cases f1;have e4:w.heap[r]? =M (.mapIter (M m) n (S.reverse.toArray.push j) n):=by rw[e3];simp
     have L:=Go.run_entry_at (P:=P) w r m n S.reverse.toArray _ n {key:=.int .i64 (f j),val:=.bool true,born:=j} e4 f2 (xW ed) (CW n f);refine⟨_,w,ρ,?_,Ext.refl _,K,by simp only[VR];exact⟨[.int .i64 (f j),.bool true],rfl,aV.aM.2 ⟨zB,aV.aM.2 ⟨zB,zH⟩⟩⟩⟩;simp only[B_,o_]at y;simp only[execOp,G,y,Sem.run_bind,L,Result.andThen_ok,Sem.run_pure]
    ·exact zR
   ·exact zR
  ·exact zR
 ·exact Uk hX hI h
end
end
section
structure St where
 t:Tr AV
 nt:Nat
 H:AH
 df:List Nat
def CY(v:Value):AV:=match jd v with|some a=>a|none=> .any
def St.ev(G:Nat)(s:St):Operand->AV
 | .tmp i=>cR s.t i
 | .const v=>CY v
 | .global g=>bif f_ g G then .ptr g 0 0 0 else .any
 | .func f=> .fn f [] []
def St.put(s:St)(d:Option Tmp)(a:AV):St :=
 match d with
 |none=>s
 |some i=>match s with
  |⟨t,nt,H,df⟩=>bif f_ i nt then⟨t.set i a,nt,H,df⟩else⟨t,nt,H,df⟩
def St.heap(s:St)(H:AH):St:=match s with
 |⟨t,nt,_,df⟩=>⟨t,nt,H,df⟩
def J7(ρ:Env):List Nat->List Deferred->Prop
 |[],ds=>ds=[]
 |l::ls,ds=> ∃b N rest,ρ l=M (b,N)/\ds={target:=.collected b,args := #[]}::rest/\J7 ρ ls rest
theorem J7.ext{ρ ρ'}(h:Ext ρ ρ'):∀{ls ds},J7 ρ ls ds->J7 ρ' ls ds
 |[],_,k=>k
 |_::_,_,⟨b,N,rest,h1,a,h3⟩=>⟨b,N,rest,h _ _ h1,a,J7.ext h h3⟩
structure cL (c:fE) (ρ:Env) (s:St) (a:Act) (w:World):Prop where
 tmp:w5 ρ s.t s.nt a.tmps
 heap:Rel c ρ s.H w
 df:J7 ρ s.df a.defers
theorem cL.ev{c ρ s a w}(h:cL c ρ s a w){G}(hG:c.G=G)(x):VR ρ (s.ev G x) (a.eval x):=by
 cases x with
 |tmp i=>exact h.tmp.2 i
 |const v=>
  simp only[St.ev,CY,Act.eval];split
  ·rename_i a ha;exact mB ρ v a ha
  ·simp only[VR]
 |global g=>
  simp only[St.ev,Act.eval];cases b:f_ g G with
  |true=>
   rw[i_]at b;obtain⟨N,d⟩:=h.heap.eZ g O;simp only[cond_true,VR]
   grind
  |false=>simp only[cond_false,VR]
 |func f=>simp only[St.ev,Act.eval,VR];exact⟨[],[],rfl,zH,zH⟩
theorem qH(t)(i j)(a):cR (t.set i a) j=if j=i then a else cR t j:=by
 unfold cR;rw[Tr.bk]
 grind
theorem w5.set{ρ t nt vs}(h:w5 ρ t nt vs){i a v}(c:VR ρ a v)(hi:i<nt):w5 ρ (t.set i a) nt (vs.setIfInBounds i v):=by
 refine⟨by simpa using h.1,λj=>?_⟩;rw[qH];by_cases b:j=i
 ·subst b;have:j<vs.size:=by rw[h.1];exact hi
  simpa [this]using c
 ·rw[if_neg b];have:(vs.setIfInBounds i v).getD j undef=vs.getD j undef:=by
   simp only[b_,Array.getElem?_setIfInBounds];rw[if_neg (λe=>b e.symm)]
  rw[this];exact h.2 j
theorem cL.put{c ρ ρ' s a w w'}(h:cL c ρ s a w)(hx:Ext ρ ρ'){H'}(b:Rel c ρ' H' w'){v u}(f:VR ρ' v u)(d):cL c ρ' ((s.heap H').put d v) (a.put d u) w':=by
 cases d with
 |none=>exact⟨h.tmp.ext hx,b,h.df.ext hx⟩
 |some i=>
  simp only[St.put,Act.put,St.heap];cases hi:f_ i s.nt with
  |true=>rw[i_]at hi;exact⟨(h.tmp.ext hx).set f hi,b,h.df.ext hx⟩
  |false=>
   have j :¬ i<s.nt:=λe=>by rw[<-i_,hi]at e;cases e
   have:a.tmps.setIfInBounds i u=a.tmps:=by apply a_;simp only[l_];exact m_ (by rw[q_,show a.tmps.size=s.nt from h.tmp.1];grind)
   rw[this];exact⟨h.tmp.ext hx,b,h.df.ext hx⟩
structure KS (R:Type) where
 n:St->R
 x:Nat->St->R
 g:Nat->St->R
 r:St->R
 p:AV->St->R
inductive aK where
 |n (s:St)
 |x (i:Nat) (s:St)
 |g (l:Nat) (s:St)
 |r (s:St)
 |p (a:AV) (s:St)
def aK.sem{R:Type}(sem:R->Prop)(k:KS R):aK->Prop
 | .n s=>sem (k.n s)
 | .x i s=>sem (k.x i s)
 | .g l s=>sem (k.g l s)
 | .r s=>sem (k.r s)
 | .p a s=>sem (k.p a s)
def aK.post(e:aK)(c:fE)(ρ:Env)(x:Exit)(a:Act)(w:World):Prop :=
 match e,x with
 | .n s,.normal=> ∃ρ',Ext ρ ρ'/\cL c ρ' s a w
 | .x i s,.exit j=>i=j/\∃ρ',Ext ρ ρ'/\cL c ρ' s a w
 | .g l s,.goto m=>l=m/\∃ρ',Ext ρ ρ'/\cL c ρ' s a w
 | .r s,.ret=> ∃ρ',Ext ρ ρ'/\cL c ρ' s a w
 | .p v s,.panic b=> ∃ρ' u,b=[{v:=u,recovered:=false}]/\Ext ρ ρ'/\cL c ρ' s a w/\VR ρ' v u
 |_,_=>False
theorem aK.gZ{e:aK}{c ρ ρ' x a w}(hx:Ext ρ ρ')(h:e.post c ρ' x a w):e.post c ρ x a w:=by
 cases e<;>cases x<;>simp only[aK.post]at h⊢ <;>first
  |exact h
  |(obtain⟨b,d,f⟩:=h;exact⟨b,hx.trans d,f⟩)
  |(obtain⟨i,b,d,f⟩:=h;exact⟨i,b,hx.trans d,f⟩)
  |(obtain⟨b,u,i,d,f⟩:=h;exact⟨b,u,i,hx.trans d,f⟩)
section
variable {R:Type} {X:RI R} {sem:R->Prop} (hX:X.Ok sem) {I:bg} {P:Program} (hI:I.Ok P)
def oc(X:RI R)(I:bg)(c:j6 R)(round:iU R)(ops:Array Oper)(k:KS R):List Oper->St->R
 |[],s=>k.n s
 |o::rest,s=>
  match o.guard with
  |none=>Uj X I c round o (s.ev I.G) s.H (λa H=>oc X I c round ops k rest ((s.heap H).put o.dst a)) (λa H=>k.p a (s.heap H))
  |some (j,want)=>
   match(ops[j]?).bind (·.dst)with
   |none=>X.fail
   |some d=>
    match cR s.t d with
    | .bool b=>
     let run (s:St):=Uj X I c round o (s.ev I.G) s.H (λa H=>oc X I c round ops k rest ((s.heap H).put o.dst a)) (λa H=>k.p a (s.heap H))
     let skip (s:St):=oc X I c round ops k rest (s.put o.dst (.bM []))
     X.cond b (λ_=>(bif want then run else skip) (s.put (M d) (.bool true))) (λ_=>(bif want then skip else run) (s.put (M d) (.bool false)))
    | .bM []=>oc X I c round ops k rest (s.put o.dst (.bM []))
    |_=>X.fail
theorem nP{ro n P ops Q i rest o a w}(b:ops[i]? =M o)
  (c:Region.wanted o (yielded ops a.tmps)=true) (h:o.wpIn (WF ro) n P a w (wpOpsIn (WF ro) n P ops Q rest) Q):wpOpsIn (WF ro) n P ops Q (i::rest) a w:=by
 simp only[wpOpsIn,b,c,if_true];exact h
theorem CZ{ro n P ops Q i rest o a w}(b:ops[i]? =M o)
  (c:Region.wanted o (yielded ops a.tmps)=false) (h:wpOpsIn (WF ro) n P ops Q rest (a.put o.dst undef) w):wpOpsIn (WF ro) n P ops Q (i::rest) a w:=by
 simp only[wpOpsIn,b,c,lu,if_false];exact⟨λ_ _=>trivial,h⟩
theorem cL.lit{c ρ s a w}(h:cL c ρ s a w){d b}(i:cR s.t d= .bool b):cL c ρ (s.put (M d) (.bool b)) a w:=by
 simp only[St.put];cases hi:f_ d s.nt with
 |true=>
  refine⟨⟨h.tmp.1,λj=>?_⟩,h.heap,h.df⟩;simp only[cond_true];rw[qH];by_cases f:j=d
  ·subst f;rw[if_pos A,<-i];exact h.tmp.2 j
  ·rw[if_neg f];exact h.tmp.2 j
 |false=>exact h
theorem xY{ρ}:VR ρ (.bM []) undef:=by simp only[VR];exact⟨[],rfl,zH⟩
theorem rN{o}{ops:Array Oper}{tmps}{j d:Nat}{a b}(e:o.guard=M (j,a))(f:(ops[j]?).bind (·.dst)=M d)(c:tmps.getD d undef= .bool b):
  Region.wanted o (yielded ops tmps)=(b==a):=by
 simp only[Region.wanted,e,yielded,f,s_];have:tmps[d]? =M (.bool b):=by
  rw[b_]at c;cases ht:tmps[d]? with
  |none=>rw[ht]at c;simp[undef]at c
  |some x=>grind
 grind
theorem pG{o}{ops:Array Oper}{tmps}{j d:Nat}{a}(c:o.guard=M (j,a))(e:(ops[j]?).bind (·.dst)=M d)(b:tmps.getD d undef=undef):
  Region.wanted o (yielded ops tmps)=false:=by
 simp only[Region.wanted,c,yielded,e,s_];rw[b_]at b;cases ht:tmps[d]? with
 |none=>rfl
 |some x=>rw[ht]at b;simp at b;subst b;rfl
include hX hI in
theorem tV{f:j6 R}(t:jq P I sem f){round:iU R}(m:iV P I sem round){ops:Array Oper}{k:KS R}:∀(l:List Oper)(i:Nat)(s:St),ops.toList.drop i=l->sem (oc X I f round ops k l s)->
  ∃e:aK,e.sem sem k/\∀ro n c ρ a w (Q:Exit->Act->World->Prop),c.G=I.G->cL c ρ s a w->(∀x a' w',e.post c ρ x a' w'->Q x a' w')->wpOpsIn (WF ro) n P ops Q (h_ i l.length) a w
 |[],i,s,_,h=>⟨.n s,h,λro n c ρ a w Q hG g hQ=>by simp only[k_,List.range'_zero,wpOpsIn];exact hQ .normal a w ⟨ρ,Ext.refl ρ,g⟩⟩
 |o::rest,i,s,hl,h=>by
  have S:ops[i]? =M o:=by
   have:(ops.toList.drop i)[0]? =M o:=by rw[hl];rfl
   rw[t_]at this;simpa using this
  have D:ops.toList.drop (i+1)=rest:=by rw[<-y_,hl];rfl
  have E:h_ i (o::rest).length=i::h_ (i+1) rest.length:=by simp[List.range'_succ]
  have run:∀s:St,sem (Uj X I f round o (s.ev I.G) s.H (λa H=>oc X I f round ops k rest ((s.heap H).put o.dst a)) (λa H=>k.p a (s.heap H)))->
    ∃e:aK,e.sem sem k/\∀ro n c ρ a w (Q:Exit->Act->World->Prop),c.G=I.G->cL c ρ s a w->Region.wanted o (yielded ops a.tmps)=true->(∀x a' w',e.post c ρ x a' w'->Q x a' w')->wpOpsIn (WF ro) n P ops Q (i::h_ (i+1) rest.length) a w:=by
   intro s h;obtain⟨out,y,C⟩:=Hy hX hI t m h;cases out with
   |ret v H'=>obtain⟨e,h3,h4⟩:=tV t m rest (i+1) _ D y;refine⟨e,h3,λro n c ρ a w Q hG g K hQ=>nP S K (C ro n c ρ w a _ Q hG (g.ev hG) g.heap (λT H2 u w' ρ' F hx J U=>?_) λT H2 u w' ρ' F=>by cases F)⟩;cases F;exact h4 ro n c ρ' _ w' Q hG (g.put hx J U o.dst) λx a' w' Y=>hQ x a' w' (aK.gZ hx Y)
   |rL v H'=>refine⟨.p v (s.heap H'),y,λro n c ρ a w Q hG g K hQ=>nP S K (C ro n c ρ w a _ Q hG (g.ev hG) g.heap (λT H2 u w' ρ' F=>by cases F) λT H2 u w' ρ' F hx J U=>?_)⟩;cases F;exact hQ _ _ _ ⟨ρ',u,rfl,hx,⟨g.tmp.ext hx,J,g.df.ext hx⟩,U⟩
  have skip:∀s:St,sem (oc X I f round ops k rest (s.put o.dst (.bM [])))->
    ∃e:aK,e.sem sem k/\∀ro n c ρ a w (Q:Exit->Act->World->Prop),c.G=I.G->cL c ρ s a w->Region.wanted o (yielded ops a.tmps)=false->(∀x a' w',e.post c ρ x a' w'->Q x a' w')->wpOpsIn (WF ro) n P ops Q (i::h_ (i+1) rest.length) a w:=by
   intro s h;obtain⟨e,h3,h4⟩:=tV t m rest (i+1) _ D h;refine⟨e,h3,λro n c ρ a w Q hG g K hQ=>CZ S K ?_⟩;exact h4 ro n c ρ _ w Q hG (g.put (Ext.refl ρ) g.heap xY o.dst) hQ
  rw[E];simp only[oc]at h;split at h
  ·rename_i N;obtain⟨e,y,C⟩:=run s h;exact⟨e,y,λro n c ρ a w Q hG g hQ=>C ro n c ρ a w Q hG g (by simp[Region.wanted,N]) hQ⟩
  ·rename_i j r N;split at h
   ·exact zR
   ·rename_i d V;split at h
    ·rename_i b O;have Z:=hX.cond _ _ _ h;have q:∀c ρ a w,cL c ρ s a w->Region.wanted o (yielded ops a.tmps)=(b==r):=λc ρ a w g=>rN N V (by
      have:=g.tmp.2 d;rw[O]at this;simpa only[VR]using this)
     have lit:∀c ρ a w,cL c ρ s a w->cL c ρ (s.put (M d) (.bool b)) a w:=λc ρ a w g=>g.lit O
     have L:(if b=true then(bif r then sem (Uj X I f round o ((s.put (M d) (.bool true)).ev I.G) (s.put (M d) (.bool true)).H (λa H=>oc X I f round ops k rest (((s.put (M d) (.bool true)).heap H).put o.dst a)) (λa H=>k.p a ((s.put (M d) (.bool true)).heap H)))else sem (oc X I f round ops k rest ((s.put (M d) (.bool true)).put o.dst (.bM []))))
       else(bif r then sem (oc X I f round ops k rest ((s.put (M d) (.bool false)).put o.dst (.bM [])))else sem (Uj X I f round o ((s.put (M d) (.bool false)).ev I.G) (s.put (M d) (.bool false)).H (λa H=>oc X I f round ops k rest (((s.put (M d) (.bool false)).heap H).put o.dst a)) (λa H=>k.p a ((s.put (M d) (.bool false)).heap H))))):=by
      cases r<;>exact Z
     cases b<;>cases r<;>simp only[if_true,lu,if_false,cond_true,cond_false]at L
     ·obtain⟨e,y,C⟩:=run _ L;exact⟨e,y,λro n c ρ a w Q hG g hQ=>C ro n c ρ a w Q hG (lit c ρ a w g) (by rw[q c ρ a w g];rfl) hQ⟩
     ·obtain⟨e,y,C⟩:=skip _ L;exact⟨e,y,λro n c ρ a w Q hG g hQ=>C ro n c ρ a w Q hG (lit c ρ a w g) (by rw[q c ρ a w g];rfl) hQ⟩
     ·obtain⟨e,y,C⟩:=skip _ L;exact⟨e,y,λro n c ρ a w Q hG g hQ=>C ro n c ρ a w Q hG (lit c ρ a w g) (by rw[q c ρ a w g];rfl) hQ⟩
     ·obtain⟨e,y,C⟩:=run _ L;exact⟨e,y,λro n c ρ a w Q hG g hQ=>C ro n c ρ a w Q hG (lit c ρ a w g) (by rw[q c ρ a w g];rfl) hQ⟩
    ·rename_i O;obtain⟨e,y,C⟩:=skip s h;refine⟨e,y,λro n c ρ a w Q hG g hQ=>C ro n c ρ a w Q hG g (pG N V ?_) hQ⟩;have:=g.tmp.2 d;rw[O]at this;simp only[VR]at this;obtain⟨vs,h5,W⟩:=this;simp only[aV]at W;subst W;exact h5
    ·exact zR
include hX hI in
theorem Ez{d:j6 R}(f:jq P I sem d){round:iU R}(b:iV P I sem round){ops:Array Oper}{k:KS R}{s:St}(h:sem (oc X I d round ops k ops.toList s))(id:Nat):
  ∃e:aK,e.sem sem k/\∀ro n c ρ a w,c.G=I.G->cL c ρ s a w->(Code.region id ops false).wpIn (WF ro) n P (e.post c ρ) a w:=by
 obtain⟨e,g,i⟩:=tV hX hI f b ops.toList 0 s rfl h;refine⟨e,g,λro n c ρ a w hG j=>wpIn_region ?_⟩;have:=i ro n c ρ a w (e.post c ρ) hG j λ_ _ _ h=>h
 rw[List.range_eq_range'];simpa using this
end
end
section
inductive Task where
 |code (c:Code)
 |inLoop (c:Code)
 |inScope (r c:Code)
def Task.items:Task->List Item
 | .code c=>[.code c]
 | .inLoop c=>[.inLoop c]
 | .inScope r c=>[.code r,.inScope c]
def gE(F:Fence)(n:Nat)(P:Program)(t:Task)(Q:Exit->Act->World->Prop)(a:Act)(w:World):Prop :=
 ∀(b:Frame)(k:List Item)(cs:List Frame),b.roundOf=F.round->F.fn b.fn->F.room (cs.length+1+n)->
  ∃e a' w',Q e a' w'/\ArrivesIn (Machine.fenced P F) P (lone (b.atR a (t.items++k)) cs w) b k cs e a' w'
theorem gE.Py{F n P c Q a w}:gE F n P (.code c) Q a w↔c.wpIn F n P Q a w:=Iff.rfl
abbrev ly(R:Type):=Bool->Task->St->KS R->R
abbrev Spec(R:Type):=List AV->AH->(AV->AH->R)->(AV->AH->R)->R
def eW(P:Program)(I:bg)(ir:Bool)(t:Task)(s:St)(e:aK):Prop :=
 ∀ro n c ρ a w,(ir=false->ro=e_)->c.G=I.G->cL c ρ s a w->gE (WF ro) n P t (e.post c ρ) a w
def xZ{R:Type}(P:Program)(I:bg)(sem:R->Prop)(rec:ly R):Prop :=
 ∀ir t s k,sem (rec ir t s k)->∃e:aK,e.sem sem k/\eW P I ir t s e
abbrev jf(R:Type):=Bool->Task->St->Option (KS R->R)
def gv{R:Type}(P:Program)(I:bg)(sem:R->Prop)(a:jf R):Prop :=
 ∀ir t s g,a ir t s=M g->∀k,sem (g k)->∃e:aK,e.sem sem k/\eW P I ir t s e
def J8(R:Type):jf R:=λ_ _ _=>e_
theorem Hz{R}(P)(I)(sem):gv P I sem (J8 R):=λ_ _ _ _ h=>zE
def tW{R:Type}(P:Program)(I:bg)(sem:R->Prop)(b:FuncId->Option (Spec R)):Prop :=
 ∀f s,b f=M s->∀args H a kp,sem (s args H a kp)->∃o:CO,o.sem sem a kp/\af P I f args H o
abbrev qI(R:Type):=j6 R->iU R->Array Oper->KS R->St->R
def qJ{R:Type}(P:Program)(I:bg)(sem:R->Prop)(d:qI R):Prop :=
 ∀b round,jq P I sem b->iV P I sem round->∀ops k s,sem (d b round ops k s)->∃e:aK,e.sem sem k/\∀ro n c ρ a w id,c.G=I.G->cL c ρ s a w->(Code.region id ops true).wpIn (WF ro) n P (e.post c ρ) a w
section
variable {R:Type} (X:RI R) (I:bg)
def ya:List Nat->AH->(AH->R)->R
 |[],H,K=>K H
 |l::ls,H,K=>match H.get l with
  | .tL=>ya ls (H.set l .dead) K
  |_=>X.fail
def Pz(s:St)(H:AH):List ResultVar->(List AV->R)->R
 |[],K=>K []
 | .tmp t::rs,K=>Pz s H rs (λvs=>K (cR s.t t::vs))
 | .cell a t::rs,K=>wc X I t H (cR s.t a) (λv=>Pz s H rs (λvs=>K (v::vs)))
def oneOf:List AV->AV
 |[v]=>v
 |vs=> .bM vs
def leave(rs:List ResultVar)(s:St)(a:AV->AH->R):R :=
 ya X s.df s.H λH=>Pz X I s H rs λvs=>a (oneOf vs) H
def yb:Tr AV->Nat->List AV->Tr AV
 |t,_,[]=>t
 |t,i,a::as=>yb (t.set i a) (i+1) as
def St.start(args:List AV)(n:Nat)(H:AH):St:={t:=yb .e 0 args,nt:=args.length+(n-args.length),H,df:=[]}
def pH(d:FuncId->Option (Spec R))(rec:ly R):j6 R:=λf args H b kp=>
 match d f with
 |some s=>s args H b kp
 |none=>match I.body f with
  |some (c,n,rs)=>rec false (.code c) (.start args n H)
    {n:=λs=>leave X I rs s b,r:=λs=>leave X I rs s b,x:=λ_ _=>X.fail,g:=λ_ _=>X.fail,p:=λa s=>ya X s.df s.H (kp a)}
  |none=>X.fail
def rO(nt:Nat)(t:Tr AV)(a:List (Nat×AV)):Tr AV:=a.foldl (λt p=>bif f_ p.1 nt then t.set p.1 p.2 else t) t
def LQ(l:Nat)(a:Option Code)(b:AV->AH->R)(s:St):R :=
 match s.H.get l with
 | .loop _ _ t nt c as d df=>b (.bool a.isNone) (s.H.set l (.loop (if a.isNone then .ready else .done) a t nt c as d df))
 |_=>X.fail
def roundOf(rec:ly R):iU R:=λl args H a=>
 match H.get l with
 | .loop _ _ t nt b as e _=>
  if b.length=args.length then
   rec true (.code as) {t:=rO nt t (b.zip args),nt,H,df:=[]}
    {n:=λc=>match c.H.get l with
      | .loop .ready f t nt b as d df=>rec true (.code e) (c.heap (c.H.set l (.loop .busy f t nt b as d df)))
        {n:=LQ X l e_ a,r:=LQ X l (M .ret) a,x:=λi=>LQ X l (M (.exit i)) a,g:=λi=>LQ X l (M (.goto i)) a,p:=λ_ _=>X.fail}
      |_=>X.fail
     x:=λ_ _=>X.fail,g:=λ_ _=>X.fail,r:=λ_=>X.fail,p:=λ_ _=>X.fail}
  else X.fail
 |_=>X.fail
def oD(k:KS R)(s:St):Option Code->R
 |none=>k.n s
 |some .ret=>k.r s
 |some (.exit i)=>k.x i s
 |some (.goto i)=>k.g i s
 |_=>X.fail
def C0(e:FuncId->Option (Spec R))(j:jf R)(o:qI R)(rec:ly R):ly R:=λir t s k=>
 match t with
 | .inLoop c=>rec ir (.code c) s {k with n:=λa=>rec ir (.inLoop c) a k}
 | .inScope r c=>rec ir (.code r) s {k with g:=λl a=>match findLabel c l with
   |some m=>match j ir (.inScope m c) a with
    |some g=>g k
    |none=>rec ir (.inScope m c) a k
   |none=>k.g l a}
 | .code c=>match c with
  | .skip=>k.n s
  | .region _ ops false=>oc X I (pH X I e rec) (roundOf X rec) ops k ops.toList s
  | .region _ ops true=>o (pH X I e rec) (roundOf X rec) ops k s
  | .seq x y=>rec ir (.code x) s {k with n:=λa=>rec ir (.code y) a k}
  | .cond c x y=>match s.ev I.G c with
   | .bool b=>X.cond b (λ_=>rec ir (.code x) s k) (λ_=>rec ir (.code y) s k)
   |_=>X.fail
  | .block id c=>rec ir (.code c) s {k with x:=λi a=>bif c_ i id then k.n a else k.x i a}
  | .loop c=>match j ir (.code (.loop c)) s with
   |some g=>g k
   |none=>rec ir (.code c) s {k with n:=λa=>rec ir (.inLoop c) a k}
  | .rangeFunc f q as u=>match ir,s.ev I.G f with
   |false,.fn g first d=>match(I.body g).isSome with
    |true=>
     pH X I e rec g (first++ .yield (s.H.n+1)::d) ((s.H.new .tL).new (.loop .ready e_ s.t s.nt q.toList as u s.H.n))
      (λ_ H=>match H.get (s.H.n+1)with
       | .loop .ready h _ _ _ _ _ _=>oD X k {s with H:=H.set (s.H.n+1) .dead,df:=s.H.n::s.df} h
       | .loop .done h _ _ _ _ _ _=>oD X k {s with H:=H.set (s.H.n+1) .dead,df:=s.H.n::s.df} h
       |_=>X.fail)
      (λv H=>k.p v {s with H:=H,df:=s.H.n::s.df})
    |false=>X.fail
   |_,_=>X.fail
  | .exit id=>k.x id s
  | .scope c=>rec ir (.inScope c c) s k
  | .label _=>k.n s
  | .goto l=>k.g l s
  | .ret=>k.r s
  | .refuse _=>X.fail
def run(a:FuncId->Option (Spec R))(b:jf R)(c:qI R)(fuel:Nat):ly R :=
 Nat.rec (motive:=λ_=>ly R) (λ_ _ _ _=>X.fail) (λ_ rec=>C0 X I a b c rec) fuel
end
section
variable {R:Type} {X:RI R} {sem:R->Prop} (hX:X.Ok sem) {I:bg} {P:Program} (hI:I.Ok P)
include hX in
theorem vg(P:Program):∀{ls:List Nat}{H:AH}{K:AH->R},sem (ya X ls H K)->
  ∃H',sem (K H')/\∀(F:Fence)(n:Nat)(fn:Func)(tmps:Array Value)(d:Ending->World->Prop)(u:FrameMode),u≠ .run->∀c ρ w ds,Rel c ρ H w->J7 ρ ls ds->(∀w',Rel c ρ H' w'->LeavesIn F n P fn tmps d [] u w')->LeavesInM F n P fn tmps d ds u w
 |[],H,K,h=>⟨H,h,λF n fn tmps d u g c ρ w ds e f hQ=>by simp only[J7]at f;subst f;exact hQ w e⟩
 |l::ls,H,K,h=>by
  simp only[ya]at h;split at h
  ·rename_i hl;obtain⟨H',m,o⟩:=vg P h;refine⟨H',m,λF n fn tmps d u g c ρ w ds e f hQ=>?_⟩;obtain⟨b,N,rest,i,rfl,p⟩:=f;have a:=e.eB l;rw[hl,i]at a;obtain⟨s,t,e4,j⟩:=a;cases e4;have q:b<w.heap.size:=(Array.getElem?_eq_some_iff.1 j).1;refine⟨g,.inl ⟨b,_,rfl,run_takeDeferred j,o F n fn tmps d u g c ρ _ rest ?_ p hQ⟩⟩;exact e.gX .dead (by rw[hl];rfl) i (λk r=>World.putObj_heap_other r) World.putObj_size A A A trivial
  ·exact zR
theorem HA{P v}(h:∃a,v= .pointer (M a))(t)(w):(do loadVar t (<-asAddr v):Sem Value).run P w=(Instr.loadAt t v).run P w:=by
 obtain⟨a,rfl⟩:=h;rfl
theorem sI{P}{α b:Type}(f:α->Sem b)(x)(xs)(w):(D_ f (x::xs)).run P w=((f x).run P w).andThen λy w'=>((D_ f xs).run P w').andThen λc a=> .ok (y::c) a:=by
 simp[List.mapM_cons]
include hX hI in
theorem C1{s:St}{H:AH}:∀{rs:List ResultVar}{K:List AV->R},sem (Pz X I s H rs K)->
  ∃vs,sem (K vs)/\∀c ρ w tmps,w5 ρ s.t s.nt tmps->Rel c ρ H w->∃us,(rs.mapM (λx:ResultVar=>(match x with
   | .tmp t=>pure (tmps.getD t undef)
   | .cell a t=>do loadVar t (<-asAddr (tmps.getD a undef)):Sem Value))).run P w= .ok us w/\aV ρ vs us
 |[],K,h=>⟨[],h,λc ρ w tmps ht d=>⟨[],zA,zH⟩⟩
 | .tmp t::rs,K,h=>by obtain⟨vs,f,g⟩:=C1 (rs:=rs) h;refine⟨_,f,λc ρ w tmps ht d=>?_⟩;obtain⟨us,h3,h4⟩:=g c ρ w tmps ht d;refine⟨tmps.getD t undef::us,?_,aV.aM.2 ⟨ht.2 t,h4⟩⟩;rw[sI];simp only[Sem.run_pure,Result.andThen_ok,h3]
 | .cell a t::rs,K,h=>by
  simp only[Pz]at h;have i:∃q,Ua H (cR s.t a)=M q:=by
   unfold wc at h;split at h
   ·exact⟨_,zI⟩
   ·exact zR
  obtain⟨⟨eB,k,e,j⟩,i⟩:=i;obtain⟨v,f,g⟩:=qC hX hI h;obtain⟨vs,h3,h4⟩:=C1 (rs:=rs) f;refine⟨_,h3,λc ρ w tmps ht d=>?_⟩;obtain⟨us,l,m⟩:=h4 c ρ w tmps ht d;obtain⟨u,n,o⟩:=g c ρ w _ (ht.2 a) d;obtain⟨b,q,p,_⟩:=CH i (ht.2 a) d;refine⟨u::us,?_,aV.aM.2 ⟨o,m⟩⟩;rw[sI];simp only[HA ⟨_,p⟩,n,Result.andThen_ok,l]
theorem PA{ρ vs us}(h:aV ρ vs us):VR ρ (oneOf vs) (if h:us.toArray.size=1 then us.toArray[0]else .tuple us.toArray):=by
 have hl:=h.length_eq;unfold oneOf;split
 ·rename_i v;simp only[aV]at h
  grind
 ·rename_i a;have :¬ us.toArray.size=1:=by
   simp only[List.size_toArray];intro e;rw[e]at hl
   match vs,hl with
   |[v],_=>exact a v A
  rw[dif_neg this];simp only[VR]
  grind
include hX hI in
theorem EA{rs:List ResultVar}{s:St}{g:AV->AH->R}(h:sem (leave X I rs s g)):∃v H',sem (g v H')/\∀c ρ a w (fn:Func) (F:Fence) (n:Nat) (d:Ending->World->Prop),cL c ρ s a w->fn.results.toList=rs->
  (∀u w',Rel c ρ H' w'->VR ρ v u->d (.returned u) w')->LeavesInM F n P fn a.tmps d a.defers .returning w:=by
 unfold leave at h;obtain⟨H',i,j⟩:=vg hX P h;obtain⟨vs,h3,h4⟩:=C1 hX hI i;refine⟨_,H',h3,λc ρ a w fn F n d e f hQ=>?_⟩;refine j F n fn a.tmps d .returning zA c ρ w a.defers e.heap e.df λw' b=>?_
 obtain⟨us,k,l⟩:=h4 c ρ w' a.tmps e.tmp b;refine⟨_,?_,hQ _ w' b (PA l)⟩;have m:fn.results=rs.toArray:=by apply a_;simpa using f
 unfold results;rw[m];simp only[List.mapM_toArray,Sem.run_bind];have o:(Functor.map List.toArray (rs.mapM (λx:ResultVar=>(match x with
   | .tmp t=>pure (a.tmps.getD t undef)
   | .cell a1 t=>do loadVar t (<-asAddr (a.tmps.getD a1 undef)):Sem Value)))).run P w'= .ok us.toArray w':=by
  rw[map_eq_pure_bind];simp only[Sem.run_bind,Sem.run_pure];rw[k];rfl
 erw [o]
 simp only[Result.andThen_ok,Sem.run_pure]
theorem wi:∀(as)(t)(i j),cR (yb t i as) j=if i<=j/\j<i+as.length then as.getD (j-i) .any else cR t j
 |[],t,i,j=>by
  simp only[yb,k_,Nat.add_zero]
  grind
 |a::as,t,i,j=>by
  simp only[yb];rw[wi as _ (i+1) j,qH]
  grind
theorem PB{c ρ H w args vs}(b:aV ρ args vs)(e:Rel c ρ H w)(n):
  cL c ρ (.start args n H) {tmps:=vs.toArray++u_ (n-vs.toArray.size) undef,defers:=[]} w:=by
 have hl:=b.length_eq;refine⟨⟨by simp[St.start,hl],λj=>?_⟩,e,rfl⟩;simp only[St.start];rw[wi];simp only[Nat.zero_le,true_and,o_,Nat.sub_zero];by_cases d:j<args.length
 ·rw[if_pos d];obtain⟨v,f,g⟩:=b.get j (a:=args.getD j .any) Y;have:(vs.toArray++u_ (n-vs.toArray.size) undef).getD j undef=v:=by
   rw[b_,Array.getElem?_append_left zJ];simp[f]
  rw[this];exact g
 ·rw[if_neg d];simp only[cR,Tr.nK,VR]
include hX hI in
theorem rQ{J:FuncId->Option (Spec R)}(E:tW P I sem J){rec:ly R}(y:xZ P I sem rec):jq P I sem (pH X I J rec):=by
 intro f args H K kp h;unfold pH at h;split at h
 ·rename_i s L;exact E f s L args H K kp h
 ·split at h
  ·rename_i c n rs N;obtain⟨fn,O,m,Q,C,q⟩:=hI.body f c n rs N;obtain⟨e,D,S⟩:=y _ _ _ _ h;have enter:=q;have body:∀(o:CO),(∀b ρ a w x,e.post b ρ x a w->bodyPostM (WF e_) 0 P fn (o.post b ρ) x a w)->af P I f args H o:=by
    intro o T b ρ w vs hG t j;refine .inl ⟨enter _ _,?_⟩;have goal:CallsIn (WF e_) 0 P f vs.toArray w (o.post b ρ):=?_
    ·exact callsIn_wide.1 goal
    have G:=PB t j n;have:=S e_ 0 b ρ _ w (λ_=>rfl) hG G;rw[gE.Py]at this;exact callsIn_of_wp_marks (F:=WF e_) O m trivial (wpIn_mono (by rw[Q];exact this) λx a w=>T b ρ a w x)
   cases e with
   |n s=>
    obtain⟨v,H',h3,h4⟩:=EA hX hI (P:=P) D;refine⟨.ret v H',h3,body _ λb ρ a w x k=>?_⟩;cases x with
    |normal=>obtain⟨ρ',hx,j⟩:=k;exact h4 b ρ' a w fn _ _ _ j C λu w' d t=>⟨ρ',hx,d,t⟩
    |_=>exact k.elim
   |r s=>
    obtain⟨v,H',h3,h4⟩:=EA hX hI (P:=P) D;refine⟨.ret v H',h3,body _ λb ρ a w x k=>?_⟩;cases x with
    |ret=>obtain⟨ρ',hx,j⟩:=k;exact h4 b ρ' a w fn _ _ _ j C λu w' d t=>⟨ρ',hx,d,t⟩
    |_=>exact k.elim
   |x i s=>exact absurd D hX.fail
   |g l s=>exact absurd D hX.fail
   |p v s=>
    obtain⟨H',h3,h4⟩:=vg hX P D;refine⟨.rL v H',h3,body _ λb ρ a w x k=>?_⟩;cases x with
    |panic U=>obtain⟨ρ',u,rfl,hx,j,t⟩:=k;exact h4 _ _ fn a.tmps _ (.panicking _) zA b ρ' w a.defers j.heap j.df λw' d=>⟨ρ',u,rfl,hx,d,t⟩
    |_=>exact k.elim
  ·exact zR
theorem gE.mono{F n P t Q d a w}(h:gE F n P t Q a w)(j:∀e a w,Q e a w->d e a w):gE F n P t d a w :=
 λb k cs c f i=>let⟨e,a',w',q,r⟩:=h b k cs c f i;Y
theorem oE{F n P c Q a w}(t)(ht:t= .inLoop c∨t= .code (.loop c))
  (h:c.wpIn F n P (Exit.then (gE F n P (.inLoop c) Q) Q) a w):gE F n P t Q a w:=by
 intro b k cs o u v;have g:(lone (b.atR a (t.items++k)) cs w).fenced P F/\step P (lone (b.atR a (t.items++k)) cs w)= .next (lone (b.atR a (.code c::.inLoop c::k)) cs w):=by
  rcases ht with rfl|rfl
  ·exact⟨fenced_calm u v A,stepR_inLoop⟩
  ·exact⟨fenced_calm u v A,stepR_loop⟩
 obtain⟨e,d,f,m,p⟩:=h b (.inLoop c::k) cs o u v;cases e with
 |normal=>obtain⟨q,r,s,j,i⟩:=m b k cs o u v;exact⟨q,r,s,j,.of_steps (.head g.1 g.2 p) i⟩
 |exit id=>exact⟨_,d,f,m,.of_steps (.one g.1 g.2) zI⟩
 |goto l=>exact⟨_,d,f,m,.of_steps (.one g.1 g.2) zI⟩
 |ret=>exact⟨_,d,f,m,.of_steps (.one g.1 g.2) zI⟩
 |panic x=>exact⟨_,d,f,m,.of_steps (.one g.1 g.2) zI⟩
 |outgrown=>exact⟨_,d,f,m,.of_steps (.one g.1 g.2) zI⟩
def oF(F:Fence)(n:Nat)(P:Program)(c:Code)(Q:Exit->Act->World->Prop):Exit->Act->World->Prop
 | .goto l,a,w=>match findLabel c l with
  |some r=>gE F n P (.inScope r c) Q a w
  |none=>Q (.goto l) a w
 |e,a,w=>Q e a w
theorem jG{F:Fence}{n:Nat}{P:Program}{c r:Code}{Q:Exit->Act->World->Prop}{a:Act}{w:World}(h:r.wpIn F n P (oF F n P c Q) a w):gE F n P (.inScope r c) Q a w:=by
 intro b k cs q C m;obtain⟨e,f,g,j,d⟩:=h b (.inScope c::k) cs q C m;have s:∀id,exitTo id (.inScope c::k)=exitTo id k:=λid=>by simp[exitTo]
 cases e with
 |normal=>
  have E:step P (lone (b.atR f (.inScope c::k)) cs g)= .next (lone (b.atR f k) cs g):=by rfl
  exact⟨.normal,f,g,j,StepsIn.trans d (.one (fenced_calm C m A) E)⟩
 |exit id=>exact⟨_,f,g,j,λD o=>d.1 D (by rw[s];exact o),λm o=>d.2 m (by rw[s];exact o)⟩
 |goto l=>
  simp only[oF]at j;cases x:findLabel c l with
  |some G=>
   rw[x]at j;have y:gotoIn l (.inScope c::k)=M (.code G::.inScope c::k):=by simp[gotoIn,x]
   obtain⟨t,u,v,p,i⟩:=j b k cs q C m;exact⟨t,u,v,p,.of_steps (d.1 _ y) i⟩
  |none=>
   rw[x]at j;have y:gotoIn l (.inScope c::k)=gotoIn l k:=by simp[gotoIn,x]
   exact⟨_,f,g,j,λD o=>d.1 D (by rw[y];exact o),λm o=>d.2 m (by rw[y];exact o)⟩
 |ret=>exact⟨_,f,g,j,d⟩
 |panic H=>exact⟨_,f,g,j,d⟩
 |outgrown=>exact⟨_,f,g,j,d⟩
theorem PC{F n P c Q a w}(h:gE F n P (.inScope c c) Q a w):gE F n P (.code (.scope c)) Q a w:=by
 intro b k cs i j l;obtain⟨e,d,f,m,g⟩:=h b k cs i j l;have o:step P (lone (b.atR a (.code (.scope c)::k)) cs w)= .next (lone (b.atR a (.code c::.inScope c::k)) cs w):=by rfl
 exact⟨e,d,f,m,.of_steps (.one (fenced_calm j l A) o) g⟩
theorem CO.gZ{o:CO}{c ρ ρ' e w}(hx:Ext ρ ρ')(h:o.post c ρ' e w):o.post c ρ e w:=by
 cases o<;>cases e<;>simp only[CO.post]at h⊢ <;>first
  |exact h
  |(obtain⟨a,b,d⟩:=h;exact⟨a,hx.trans b,d⟩)
  |(obtain⟨a,u,f,b,d⟩:=h;exact⟨a,u,f,hx.trans b,d⟩)
theorem yc{P l R R' x a w}(h:roundPost P l R x a w)(b:∀e w,R e w->R' e w):roundPost P l R' x a w:=by
 cases x<;>simp only[roundPost]at h⊢ <;>first
  |exact h
  |grind
theorem tX{ρ nt}:∀(b)(us:List (Nat×Value))(t)(vs),b.map (·.1)=us.map (·.1)->aV ρ (b.map (·.2)) (us.map (·.2))->w5 ρ t nt vs->
  w5 ρ (rO nt t b) nt (us.foldl (λtmps p=>tmps.setIfInBounds p.1 p.2) vs)
 |[],[],t,vs,_,_,h=>h
 |[],_::_,t,vs,h,_,_=>by simp at h
 |_::_,[],t,vs,h,_,_=>by simp at h
 |(i,a)::b,(j,u)::us,t,vs,c,d,h=>by
  simp only[n_,List.cons.injEq]at c;obtain⟨rfl,c⟩:=c;simp only[n_,aV.aM]at d;simp only[rO,List.foldl_cons];refine tX b us _ _ c d.2 ?_;cases hi:f_ i nt with
  |true=>rw[i_]at hi;exact h.set d.1 hi
  |false=>
   have f :¬ i<nt:=λe=>by rw[<-i_,hi]at e;cases e
   have:vs.setIfInBounds i u=vs:=by apply a_;simp only[l_];exact m_ (by rw[q_,h.1];omega)
   grind
include hX in
theorem xr{l:Nat}{e:Option Code}{g:AV->AH->R}{s:St}(h:sem (LQ X l e g s)):∃H',sem (g (.bool e.isNone) H')/\∀c ρ w b N,Rel c ρ s.H w->ρ l=M (b,N)->∃w',(Instr.endRound b e).run P w= .ok (.bool e.isNone) w'/\Rel c ρ H' w':=by
 unfold LQ at h;split at h
 ·rename_i q r t nt u as v df hl;refine⟨_,h,λc ρ w b N i j=>?_⟩;have f:=i.eB l;rw[hl,j]at f;obtain⟨x,y,d,a,fn,vs,m,n,o,e4⟩:=f;cases m;refine⟨_,run_endRound e e4,i.gX _ (by rw[hl];rfl) j (λk p=>World.putObj_heap_other p) World.putObj_size A A A ?_⟩;exact⟨b,N,d,a,fn,vs,rfl,n,o,World.putObj_heap_same (Array.getElem?_eq_some_iff.1 e4).1⟩
 ·exact zR
include hX in
theorem yd{rec:ly R}(D:xZ P I sem rec):iV P I sem (roundOf X rec):=by
 intro l args H kn h;unfold roundOf at h;split at h
 ·rename_i st pd t nt K as bd df hl;split at h
  ·rename_i Q;obtain⟨e,E,h2⟩:=D _ _ _ _ h;cases e with
   |n s1=>
    simp only[aK.sem]at E;split at E
    ·rename_i S t1 Y T U V Z W;obtain⟨e2,h3,h4⟩:=D _ _ _ _ E;have aa:∃a H',sem (kn a H')/\∀c ρ b N,ρ l=M (b,N)->∀x a2 m,e2.post c ρ x a2 m->roundPost P b ((CO.ret a H').post c ρ) x a2 m:=by
      cases e2 with
      |n s=>
       obtain⟨H',k1,k2⟩:=xr (P:=P) hX h3;refine⟨_,H',k1,λc ρ b N o x a2 m j=>?_⟩;cases x with
       |normal=>obtain⟨ρ',hx,u⟩:=j;obtain⟨w',f1,G⟩:=k2 c ρ' m b N u.heap (hx _ _ o);exact⟨_,w',f1,ρ',hx,G,zB⟩
       |_=>exact j.elim
      |r s=>
       obtain⟨H',k1,k2⟩:=xr (P:=P) hX h3;refine⟨_,H',k1,λc ρ b N o x a2 m j=>?_⟩;cases x with
       |ret=>obtain⟨ρ',hx,u⟩:=j;obtain⟨w',f1,G⟩:=k2 c ρ' m b N u.heap (hx _ _ o);exact⟨_,w',f1,ρ',hx,G,zB⟩
       |_=>exact j.elim
      |x i s=>
       obtain⟨H',k1,k2⟩:=xr (P:=P) hX h3;refine⟨_,H',k1,λc ρ b N o x a2 m j=>?_⟩;cases x with
       |exit id=>obtain⟨rfl,ρ',hx,u⟩:=j;obtain⟨w',f1,G⟩:=k2 c ρ' m b N u.heap (hx _ _ o);exact⟨_,w',f1,ρ',hx,G,zB⟩
       |_=>exact j.elim
      |g i s=>
       obtain⟨H',k1,k2⟩:=xr (P:=P) hX h3;refine⟨_,H',k1,λc ρ b N o x a2 m j=>?_⟩;cases x with
       |goto id=>obtain⟨rfl,ρ',hx,u⟩:=j;obtain⟨w',f1,G⟩:=k2 c ρ' m b N u.heap (hx _ _ o);exact⟨_,w',f1,ρ',hx,G,zB⟩
       |_=>exact j.elim
      |p v s=>exact absurd h3 hX.fail
     obtain⟨a,H',k1,k2⟩:=aa;refine⟨a,H',k1,λc ρ w vs b N hG hv u o=>?_⟩;have J:=u.eB l;rw[hl,o]at J;obtain⟨b',N',d,f,fn,us,f1,G,f3,f4⟩:=J;cases f1;have ad:vs.toArray.size=K.toArray.size:=by simp[<-hv.length_eq,Q]
     refine⟨_,_,_,_,run_yield f4 ad,λn=>roundIn_of_wpIn (F:=WF e_) trivial ?_⟩;have ap:cL c ρ {t:=rO nt t (K.zip args),nt,H,df:=[]} {tmps:=(K.toArray.zip vs.toArray).foldl (λtmps (t,a)=>tmps.setIfInBounds t a) us,defers:=[]} w:=by
      refine⟨?_,u,rfl⟩;have a7:=hv.length_eq;have:=tX (K.zip args) (K.zip vs) t us (by rw[v_ O,v_ O]) (by rw[w_ O,w_ O];exact hv) f3;have e1:(K.toArray.zip vs.toArray).foldl (λtmps (x:Nat×Value)=>tmps.setIfInBounds x.1 x.2) us=(K.zip vs).foldl (λtmps p=>tmps.setIfInBounds p.1 p.2) us:=by rw[<-Array.foldl_toList];simp
      rw[<-e1]at this;exact this
     refine wpIn_mono (h2 (M b) n c ρ _ w (λh=>zE) hG ap) λx a1 w1 j=>?_
     cases x with
     |normal=>
      obtain⟨L,y,C⟩:=j;have q:=C.heap.eB l;rw[W,y _ _ o]at q;obtain⟨b',N',d,f,fn,us,g1,g2,g3,g4⟩:=q;cases g1;refine⟨_,run_beginRound g4 A,?_⟩;have a6:Rel c L (s1.H.set l (.loop .busy S t1 Y T U V Z)) (w1.putObj b (.loop {state:=.busy,pending:=S,fn:=fn,tmps:=us,params:=T.toArray,assign:=U,body:=V,defers:=d})):=by refine C.heap.gX _ (by rw[W];rfl) (y _ _ o) (λk hk=>World.putObj_heap_other hk) World.putObj_size A A A ?_;exact⟨b,N,d,f,fn,us,rfl,g2,g3,World.putObj_heap_same (Array.getElem?_eq_some_iff.1 g4).1⟩
      refine wpIn_mono (h4 (M b) n c L a1 _ (λh=>zE) hG ⟨C.tmp,a6,C.df⟩) λx a2 m j=>?_
      have:=k2 c L b N (y _ _ o) x a2 m j;exact yc this λe w' hq=>CO.gZ y hq
     |_=>exact j.elim
    ·exact absurd E hX.fail
   |r s=>exact absurd E hX.fail
   |x i s=>exact absurd E hX.fail
   |g i s=>exact absurd E hX.fail
   |p v s=>exact absurd E hX.fail
  ·exact zR
 ·exact zR
end
end
section
section
variable {R:Type} {X:RI R} {sem:R->Prop} (hX:X.Ok sem) {I:bg} {P:Program} (hI:I.Ok P)
theorem PD{k s b}(h:sem (oD X k s b))(hX:X.Ok sem):∃e:aK,e.sem sem k/\
  ∀ro n c ρ a w,cL c ρ s a w->(match b with|none=>e.post c ρ .normal a w|some j=>j.wpIn (WF ro) n P (e.post c ρ) a w):=by
 unfold oD at h;split at h
 ·exact⟨.n s,h,λro n c ρ a w d=>⟨ρ,Ext.refl ρ,d⟩⟩
 ·exact⟨.r s,h,λro n c ρ a w d=>wpIn_ret ⟨ρ,Ext.refl ρ,d⟩⟩
 ·rename_i i;exact⟨.x i s,h,λro n c ρ a w d=>wpIn_exit ⟨rfl,ρ,Ext.refl ρ,d⟩⟩
 ·rename_i i;exact⟨.g i s,h,λro n c ρ a w d=>wpIn_goto ⟨rfl,ρ,Ext.refl ρ,d⟩⟩
 ·exact zR
include hX hI in
theorem HC{Γ:FuncId->Option (Spec R)}(cr:tW P I sem Γ){Λ:jf R}(b6:gv P I sem Λ){dr:qI R}(cv:qJ P I sem dr){rec:ly R}(S:xZ P I sem rec):xZ P I sem (C0 X I Γ Λ dr rec):=by
 intro ir t s k h;have Y:jq P I sem (pH X I Γ rec):=rQ hX hI cr S;have Z:iV P I sem (roundOf X rec):=yd hX S;have ap:∀{t1 t2:Task}{s:St},sem (rec ir t1 s {k with n:=λs'=>rec ir t2 s' k})->
   ∃e:aK,e.sem sem k/\∀ro n c ρ a w,(ir=false->ro=e_)->c.G=I.G->cL c ρ s a w->gE (WF ro) n P t1 (Exit.then (gE (WF ro) n P t2 (e.post c ρ)) (e.post c ρ)) a w:=by
  intro t1 t2 s h;obtain⟨e1,L,O⟩:=S _ _ _ _ h;cases e1 with
  |n s1=>
   obtain⟨e2,h3,h4⟩:=S _ _ _ _ L;refine⟨e2,h3,λro n c ρ a w C hG J=>(O ro n c ρ a w C hG J).mono λx a1 V K=>?_⟩;cases x with
   |normal=>obtain⟨U,hx,aa⟩:=K;exact(h4 ro n c U a1 V C hG aa).mono λx a2 w2 K=>aK.gZ hx K
   |_=>exact K.elim
  |x i s1=>
   refine⟨.x i s1,L,λro n c ρ a w C hG J=>(O ro n c ρ a w C hG J).mono λx a1 V K=>?_⟩;cases x with
   |exit id=>exact K
   |_=>exact K.elim
  |g i s1=>
   refine⟨.g i s1,L,λro n c ρ a w C hG J=>(O ro n c ρ a w C hG J).mono λx a1 V K=>?_⟩;cases x with
   |goto id=>exact K
   |_=>exact K.elim
  |r s1=>
   refine⟨.r s1,L,λro n c ρ a w C hG J=>(O ro n c ρ a w C hG J).mono λx a1 V K=>?_⟩;cases x with
   |ret=>exact K
   |_=>exact K.elim
  |p v s1=>
   refine⟨.p v s1,L,λro n c ρ a w C hG J=>(O ro n c ρ a w C hG J).mono λx a1 V K=>?_⟩;cases x with
   |panic ch=>exact K
   |_=>exact K.elim
 unfold C0 at h;split at h
 ·
  rename_i c;obtain⟨e,L,O⟩:=ap h;exact⟨e,L,λro n E ρ a w C hG J=>oE _ (.inl A) (O ro n E ρ a w C hG J)⟩
 ·
  rename_i r c;obtain⟨e1,L,O⟩:=S _ _ _ _ h;cases e1 with
  |g l s1=>
   simp only[aK.sem]at L;split at L
   ·rename_i r' hf;have key:∃e2:aK,e2.sem sem k/\eW P I ir (.inScope r' c) s1 e2:=by
     split at L
     ·rename_i g hg;exact b6 _ _ _ _ hg _ L
     ·exact S _ _ _ _ L
    obtain⟨e2,h3,h4⟩:=key;refine⟨e2,h3,λro n E ρ a w C hG J=>jG ((O ro n E ρ a w C hG J).mono λx a1 V K=>?_)⟩;cases x with
    |goto m=>obtain⟨rfl,U,hx,aa⟩:=K;simp only[oF,hf];exact(h4 ro n E U a1 V C hG aa).mono λx a2 w2 K=>aK.gZ hx K
    |_=>exact K.elim
   ·rename_i hf;refine⟨.g l s1,L,λro n E ρ a w C hG J=>jG ((O ro n E ρ a w C hG J).mono λx a1 V K=>?_)⟩;cases x with
    |goto m=>have a6:=K;obtain⟨rfl,_⟩:=a6;simp only[oF,hf];exact K
    |_=>exact K.elim
  |n s1=>refine⟨.n s1,L,λro n E ρ a w C hG J=>jG ((O ro n E ρ a w C hG J).mono λx a1 V K=>?_)⟩;cases x<;>first|exact K|exact K.elim
  |x i s1=>refine⟨.x i s1,L,λro n E ρ a w C hG J=>jG ((O ro n E ρ a w C hG J).mono λx a1 V K=>?_)⟩;cases x<;>first|exact K|exact K.elim
  |r s1=>refine⟨.r s1,L,λro n E ρ a w C hG J=>jG ((O ro n E ρ a w C hG J).mono λx a1 V K=>?_)⟩;cases x<;>first|exact K|exact K.elim
  |p v s1=>refine⟨.p v s1,L,λro n E ρ a w C hG J=>jG ((O ro n E ρ a w C hG J).mono λx a1 V K=>?_)⟩;cases x<;>first|exact K|exact K.elim
 ·rename_i c;split at h
  ·exact⟨.n s,h,λro n E ρ a w C hG J=>wpIn_skip ⟨ρ,Ext.refl ρ,J⟩⟩
  ·rename_i id ops;obtain⟨e,L,O⟩:=Ez hX hI Y Z h id;exact⟨e,L,λro n E ρ a w C hG J=>O ro n E ρ a w hG J⟩
  ·rename_i id ops;obtain⟨e,L,O⟩:=cv _ _ Y Z _ _ _ h;exact⟨e,L,λro n E ρ a w C hG J=>O ro n E ρ a w id hG J⟩
  ·obtain⟨e,L,O⟩:=ap h;exact⟨e,L,λro n E ρ a w C hG J=>wpIn_seq (O ro n E ρ a w C hG J)⟩
  ·rename_i cd x y;split at h
   ·rename_i b hb;have hc:=hX.cond _ _ _ h;have hv:∀E ρ a w,E.G=I.G->cL E ρ s a w->a.eval cd= .bool b:=λE ρ a w hG J=>by
     have:=J.ev hG cd;rw[hb]at this;simpa only[VR]using this
    cases b with
    |true=>obtain⟨e,L,O⟩:=S _ _ _ _ (by simpa using hc);exact⟨e,L,λro n E ρ a w C hG J=>wpIn_cond_true (hv E ρ a w hG J) (O ro n E ρ a w C hG J)⟩
    |false=>obtain⟨e,L,O⟩:=S _ _ _ _ (by simpa using hc);exact⟨e,L,λro n E ρ a w C hG J=>wpIn_cond_false (hv E ρ a w hG J) (O ro n E ρ a w C hG J)⟩
   ·exact zR
  ·rename_i id c;obtain⟨e1,L,O⟩:=S _ _ _ _ h;cases e1 with
   |x i s1=>
    simp only[aK.sem]at L;cases hi:c_ i id with
    |true=>
     rw[hi]at L;have c6:=dV hi;subst c6;refine⟨.n s1,L,λro n E ρ a w C hG J=>wpIn_block (wpIn_mono (O ro n E ρ a w C hG J) λx a1 V K=>?_)⟩;cases x with
     |exit j=>obtain⟨rfl,K⟩:=K;simp only[Exit.inBlock,if_true];exact K
     |_=>exact K.elim
    |false=>
     rw[hi]at L;have c7 :¬ i=id:=λe=>by subst e;have:c_ i i=true:=qy i;rw[this]at hi;cases hi
     refine⟨.x i s1,L,λro n E ρ a w C hG J=>wpIn_block (wpIn_mono (O ro n E ρ a w C hG J) λx a1 V K=>?_)⟩;cases x with
     |exit j=>have a6:=K;obtain⟨rfl,_⟩:=a6;simp only[Exit.inBlock,if_neg c7];exact K
     |_=>exact K.elim
   |n s1=>refine⟨.n s1,L,λro n E ρ a w C hG J=>wpIn_block (wpIn_mono (O ro n E ρ a w C hG J) λx a1 V K=>?_)⟩;cases x<;>first|exact K|exact K.elim
   |g i s1=>refine⟨.g i s1,L,λro n E ρ a w C hG J=>wpIn_block (wpIn_mono (O ro n E ρ a w C hG J) λx a1 V K=>?_)⟩;cases x<;>first|exact K|exact K.elim
   |r s1=>refine⟨.r s1,L,λro n E ρ a w C hG J=>wpIn_block (wpIn_mono (O ro n E ρ a w C hG J) λx a1 V K=>?_)⟩;cases x<;>first|exact K|exact K.elim
   |p v s1=>refine⟨.p v s1,L,λro n E ρ a w C hG J=>wpIn_block (wpIn_mono (O ro n E ρ a w C hG J) λx a1 V K=>?_)⟩;cases x<;>first|exact K|exact K.elim
  ·rename_i c;split at h
   ·rename_i g hg;exact b6 _ _ _ _ hg _ h
   ·obtain⟨e,L,O⟩:=ap h;exact⟨e,L,λro n E ρ a w C hG J=>oE _ (.inr A) (O ro n E ρ a w C hG J)⟩
  ·rename_i f ps as bd;split at h
   ·rename_i g first b7 dk
    split at h
    ·rename_i hg;obtain⟨⟨cg,ng,rg⟩,a7⟩:=Option.isSome_iff_exists.1 hg;obtain⟨eh,eg,ei,_,_,bq⟩:=hI.body g cg ng rg a7;have enter:=bq;obtain⟨o,L,O⟩:=Y _ _ _ _ _ h;have dt:∀E ρ (a:Act) w,cL E ρ s a w->∀fn,∃Q b N D q w2,Ext ρ Q/\Q (s.H.n+1)=M (b,N)/\Q s.H.n=M (D,q)/\
       Rel E Q ((s.H.new .tL).new (.loop .ready e_ s.t s.nt ps.toList as bd s.H.n)) w2/\
       (Instr.enterLoop fn a.tmps ps as bd e_).run P w= .ok (b,[{target:=.collected D,args := #[]}]) w2:=by
      intro E ρ a w J fn;obtain⟨b8,aa⟩:=J.heap.new (.deferred (M [])) 0 .tL λw' bs=>⟨_,_,rfl,bs⟩
      obtain⟨T,W⟩:=aa.new (.loop {state:=.ready,pending:=e_,fn:=fn,tmps:=a.tmps,params:=ps,assign:=as,body:=bd,defers:=w.heap.size}) 0 (.loop .ready e_ s.t s.nt ps.toList as bd s.H.n) λw' bs=>by refine⟨_,_,w.heap.size,0,fn,a.tmps,rfl,?_,J.tmp.ext (b8.trans (Env.pz _ (aa.top _ (dP _)))),by simpa using bs⟩;rw[Env.fe _ _ zA];exact Env.da _ _ _
      refine⟨_,_,0,w.heap.size,0,_,b8.trans T,Env.da _ _ _,?_,W,?_⟩
      ·rw[Env.fe _ _ zA];exact Env.da _ _ _
      ·rw[run_enterLoop_outer];simp only[World.alloc,Array.size_push]
     have b9:∀e:aK,(∀n E ρ (a:Act) (V:World) U d N D q en,E.G=I.G->Ext ρ U->U (s.H.n+1)=M (d,N)->U s.H.n=M (D,q)->w5 U s.t s.nt a.tmps->J7 U s.df a.defers->
       o.post E U en V->rangePost (WF e_) n P d (e.post E ρ) {a with defers:=[{target:=.collected D,args := #[]}]++a.defers} en V)->
       ∀ro n E ρ a w,ro=e_->E.G=I.G->cL E ρ s a w->(Code.rangeFunc f ps as bd).wpIn (WF ro) n P (e.post E ρ) a w:=by
      intro e b0 ro n E ρ a w C hG J;subst C;refine wpIn_rangeFunc λfn _=>?_
      obtain⟨Q,b,N,D,q,w2,hx,hb,hD,W,cc⟩:=dt E ρ a w J fn;have hv:=J.ev hG f;rw[dk]at hv;simp only[VR]at hv;obtain⟨us,vs,dv,ea,eb⟩:=hv;have b1:aV Q (first++ .yield (s.H.n+1)::b7) (us++ .func (.yield b) #[] #[]::vs):=(aV.ext hx _ _ ea).append (aV.aM.2 ⟨by simp only[VR];exact⟨b,N,hb,rfl⟩,aV.ext hx _ _ eb⟩)
      have e1:us.toArray++ #[Value.func (.yield b) #[] #[]]++vs.toArray=(us++ .func (.yield b) #[] #[]::vs).toArray:=by apply a_;simp
      refine⟨b,_,w2,{target:=.fn (.func g) vs.toArray,args:=us.toArray++ #[.func (.yield b) #[] #[]]},w2,g,(us++ .func (.yield b) #[] #[]::vs).toArray,w2,cc,?_,λ_ _=>trivial,?_,λhh=>by simp[WF,Fence.wide]at hh,?_⟩
      ·have e2:Array.map a.eval #[Operand.const (Value.func (Fn.yield b) #[] #[])]= #[Value.func (.yield b) #[] #[]]:=by simp[Act.eval]
       simp only[resolve,dv,Deferred.ofValue,Sem.run_pure,e2]
      ·simp only[invoke,e1,enter]
      ·rcases O E Q w2 _ hG b1 W with⟨_,k2⟩|⟨v,w',k1,_⟩
       ·refine CallsIn.mono (F:=WF e_) (R:=o.post E Q) ?_ λen w' K=>?_
        ·have goal:CallsIn Fence.wide (n-1) P g (us++ .func (.yield b) #[] #[]::vs).toArray w2 (o.post E Q):=callsIn_wide.2 k2;exact goal
        ·exact b0 n E ρ a w' Q b N D q en hG hx hb hD (J.tmp.ext hx) (J.df.ext hx) K
       ·rw[enter]at k1;cases k1
     cases o with
     |ret v H'=>
      simp only[CO.sem]at L;have done:∀pd (st:LoopState) t nt b2 b3 b4 cf,H'.get (s.H.n+1)= .loop st pd t nt b2 b3 b4 cf->st≠ .busy->sem (oD X k {s with H:=H'.set (s.H.n+1) .dead,df:=s.H.n::s.df} pd)->
        ∃e:aK,e.sem sem k/\∀ro n E ρ a w,(false=false->ro=e_)->E.G=I.G->cL E ρ s a w->gE (WF ro) n P (.code (.rangeFunc f ps as bd)) (e.post E ρ) a w:=by
       intro pd st t nt b2 b3 b4 cf hl ed L;obtain⟨e,h3,h4⟩:=PD (P:=P) L hX;refine⟨e,h3,λro n E ρ a w C hG J=>b9 e (λn E ρ a V U d N D q en hG hx hd hD ht b5 K=>?_) ro n E ρ a w (C A) hG J⟩;cases en with
       |returned u=>
        obtain⟨Q,T,W,hv⟩:=K;have ad:=W.eB (s.H.n+1);rw[hl,T _ _ hd]at ad;obtain⟨b',N',dd,MM,fn,us,g1,g2,g3,g4⟩:=ad;cases g1;have cp:=run_endLoop (P:=P) g4 ed;have ee:Rel E Q (H'.set (s.H.n+1) .dead) (V.putObj d (.loop {state:=.exhausted,pending:=pd,fn:=fn,tmps:=us,params:=b2.toArray,assign:=b3,body:=b4,defers:=dd})):=W.gX .dead (by rw[hl];rfl) (T _ _ hd) (λk hk=>World.putObj_heap_other hk) World.putObj_size A A A trivial
        have ef:cL E Q {s with H:=H'.set (s.H.n+1) .dead,df:=s.H.n::s.df} {a with defers:=[{target:=.collected D,args := #[]}]++a.defers} _ :=⟨ht.ext T,ee,D,q,a.defers,T _ _ hD,rfl,b5.ext T⟩
        refine⟨pd,_,cp,?_⟩;have:=h4 e_ n E Q _ _ ef;cases pd with
        |none=>exact aK.gZ (hx.trans T) this
        |some j=>exact wpIn_mono this λx a w K=>aK.gZ (hx.trans T) K
       |panicked ch=>exact K.elim
       |outgrown=>exact K.elim
      split at L
      ·rename_i hl;exact done _ _ _ _ _ _ _ _ hl zA L
      ·rename_i hl;exact done _ _ _ _ _ _ _ _ hl zA L
      ·exact absurd L hX.fail
     |rL v H'=>
      refine⟨.p v {s with H:=H',df:=s.H.n::s.df},L,λro n E ρ a w C hG J=>b9 _ (λn E ρ a V U d N D q en hG hx hd hD ht b5 K=>?_) ro n E ρ a w (C A) hG J⟩;cases en with
      |panicked ch=>obtain⟨Q,u,rfl,T,W,hv⟩:=K;exact⟨Q,u,rfl,hx.trans T,⟨ht.ext T,W,D,q,a.defers,T _ _ hD,rfl,b5.ext T⟩,hv⟩
      |returned u=>exact K.elim
      |outgrown=>exact K.elim
    ·exact zR
   ·exact zR
  ·rename_i id;exact⟨.x id s,h,λro n E ρ a w C hG J=>wpIn_exit ⟨rfl,ρ,Ext.refl ρ,J⟩⟩
  ·rename_i c;obtain⟨e,L,O⟩:=S _ _ _ _ h;exact⟨e,L,λro n E ρ a w C hG J=>PC (O ro n E ρ a w C hG J)⟩
  ·exact⟨.n s,h,λro n E ρ a w C hG J=>wpIn_label ⟨ρ,Ext.refl ρ,J⟩⟩
  ·rename_i l;exact⟨.g l s,h,λro n E ρ a w C hG J=>wpIn_goto ⟨rfl,ρ,Ext.refl ρ,J⟩⟩
  ·exact⟨.r s,h,λro n E ρ a w C hG J=>wpIn_ret ⟨ρ,Ext.refl ρ,J⟩⟩
  ·exact zR
include hX hI in
theorem C2{d:FuncId->Option (Spec R)}(a:tW P I sem d){e:jf R}(b:gv P I sem e){f:qI R}(c:qJ P I sem f):∀fuel,xZ P I sem (run X I d e f fuel)
 |0=>λ_ _ _ _ h=>zR
 |fuel+1=>HC hX hI a b c (C2 a b c fuel)
end
end
mutual
def AV.bx(σ:Nat->Nat):AV->AV
 | .ptr l k e j=> .ptr (σ l) k e j
 | .slice l b k len cap e=> .slice (σ l) b k len cap e
 | .own l len e=> .own (σ l) len e
 | .map (M l)=> .map (M (σ l))
 | .fn f a b=> .fn f (bj.bx σ a) (bj.bx σ b)
 | .yield l=> .yield (σ l)
 | .iface t a=> .iface t (a.bx σ)
 | .agg cs=> .agg (bj.bx σ cs)
 | .bM cs=> .bM (bj.bx σ cs)
 | .bool b=> .bool b
 | .int k n=> .int k n
 | .str s=> .str s
 | .nilPtr=> .nilPtr
 | .aD=> .aD
 | .map e_=> .map e_
 | .jm=> .jm
 | .nilIface=> .nilIface
 | .any=> .any
 | .bW cs j=> .bW cs j
 | .ae len e f=> .ae len e f
 | .addr b j=> .addr b j
def bj.bx(σ:Nat->Nat):List AV->List AV
 |[]=>[]
 |a::as=>a.bx σ::bj.bx σ as
end
structure w6 (σ:Nat->Nat) (ρ ρ':Env):Prop where
 T4:∀l x,ρ l=M x->ρ' (σ l)=M x
 fz:∀b vs,ρ.fz b=M vs->ρ'.fz b=M vs
instance {σ:Nat->Nat}{ρ ρ':Env}:CoeFun (w6 σ ρ ρ') (λ_=> ∀l x,ρ l=M x->ρ' (σ l)=M x):=⟨w6.T4⟩
def w6.bare{σ ρ ρ'}(h:w6 σ ρ ρ'):Ext ρ.bare ρ'.bare:=⟨λ_ _ e=>zG,h.fz⟩
mutual
def VR.bx{σ:Nat->Nat}{ρ ρ':Env}(h:w6 σ ρ ρ'):∀(a:AV)(v:Value),VR ρ a v->VR ρ' (a.bx σ) v
 | .bool _,_,k=>zD
 | .int _ _,_,k=>zD
 | .str _,_,k=>zD
 | .nilPtr,_,k=>zD
 | .ptr l _ _ _,v,k=>by simp only[VR,AV.bx]at k⊢;obtain⟨b,N,e,r⟩:=k;exact⟨b,N,h _ _ e,r⟩
 | .slice l _ _ _ _ _,v,k=>by simp only[VR,AV.bx]at k⊢;obtain⟨b,N,c,a,e,r⟩:=k;exact⟨b,N,c,a,h _ _ e,r⟩
 | .aD,_,k=>zD
 | .own l len e,v,k=>by
  simp only[VR,AV.bx]at k⊢;rcases k with k|⟨b,N,c,e,r⟩
  ·exact .inl k
  ·exact .inr ⟨b,N,c,h _ _ e,r⟩
 | .map e_,_,k=>zD
 | .map (M l),v,k=>by simp only[VR,AV.bx]at k⊢;obtain⟨b,N,e,r⟩:=k;exact⟨b,N,h _ _ e,r⟩
 | .fn f first d,v,k=>by simp only[VR,AV.bx]at k⊢;obtain⟨us,vs,e,r,s⟩:=k;exact⟨us,vs,e,aV.bx h first us r,aV.bx h d vs s⟩
 | .yield l,v,k=>by simp only[VR,AV.bx]at k⊢;obtain⟨b,N,e,r⟩:=k;exact⟨b,N,h _ _ e,r⟩
 | .jm,_,k=>zD
 | .addr _ _,_,k=>zD
 | .nilIface,_,k=>zD
 | .iface t a,v,k=>by simp only[VR,AV.bx]at k⊢;obtain⟨u,e,r⟩:=k;exact⟨u,e,VR.bx h a u r⟩
 | .agg cs,v,k=>by simp only[VR,AV.bx]at k⊢;obtain⟨vs,e,r⟩:=k;exact⟨vs,e,aV.bx h cs vs r⟩
 | .bM cs,v,k=>by simp only[VR,AV.bx]at k⊢;obtain⟨vs,e,r⟩:=k;exact⟨vs,e,aV.bx h cs vs r⟩
 | .any,_,_=>by simp only[VR,AV.bx]
 | .bW cs j,v,hk=>by simp only[VR,AV.bx]at hk⊢;obtain⟨b,q,vs,m,o,h3⟩:=hk;exact⟨b,q,vs,m,o.mono h.fz,aV.ext h.bare _ _ h3⟩
 | .ae len e f,v,hk=>by
  simp only[VR,AV.bx]at hk⊢;rcases hk with hk|⟨b,q,c,a,w,m,o,h3⟩
  ·exact .inl hk
  ·exact .inr ⟨b,q,c,a,w,m,o,λhl=>⟨(h3 hl).1,(h3 hl).2.1.mono h.fz,λi hi=>⟨((h3 hl).2.2 i hi).1,aV.ext h.bare _ _ ((h3 hl).2.2 i hi).2⟩⟩⟩
def aV.bx{σ:Nat->Nat}{ρ ρ':Env}(h:w6 σ ρ ρ'):∀(as:List AV)(vs:List Value),aV ρ as vs->aV ρ' (bj.bx σ as) vs
 |[],_,k=>by simpa only[aV,bj.bx]using k
 |a::as,vs,k=>by simp only[aV,bj.bx]at k⊢;obtain⟨u,us,e,r,s⟩:=k;exact⟨u,us,e,VR.bx h a u r,aV.bx h as us s⟩
end
def bj.mI(σ):∀as,bj.bx σ as=as.map (AV.bx σ)
 |[]=>by simp[bj.bx]
 |a::as=>by simp[bj.bx,bj.mI σ as]
def Tr.map{α a:Type}(f:α->a):Tr α->Tr a
 | .e=> .e
 | .n l v r=> .n (l.map f) (match v with|some x=>M (f x)|none=>e_) (r.map f)
def Tr.get_map{α a}(f:α->a):∀(t:Tr α)(i),(t.map f).get i=(t.get i).map f
 | .e,i=>rfl
 | .n l v r,i=>by
  simp only[Tr.map,Tr.get];cases c_ i 0
  ·cases c_ (i%2) 1
   ·simp only[cond_false];exact Tr.get_map f r _
   ·simp only[cond_true,cond_false];exact Tr.get_map f l _
  ·cases v<;>rfl
def aae.bx(σ:Nat->Nat):aae->aae
 | .cells cs rw=> .cells (bj.bx σ cs) rw
 | .rows n e f rw=> .rows n e (λi=>bj.bx σ (f i)) rw
 | .str s rw=> .str s rw
 | .map es=> .map (es.map λx=>(x.1.bx σ,x.2.bx σ))
 | .loop b c t nt d as h df=> .loop b c (t.map (AV.bx σ)) nt d as h (σ df)
 | .tL=> .tL
 | .iter l=> .iter (σ l)
 | .jn n K=> .jn n K
 | .gy l since S=> .gy (σ l) since S
 | .dK n K Q a=> .dK n K (λi=>(Q i).bx σ) (a.map λx=>(x.1,x.2.bx σ))
 | .dead=> .dead
def tb(σ)(es):dZ (es.map λx=>(x.1.bx σ,x.2.bx σ))=dZ es:=by
 cases es with
 |nil=>rfl
 |cons e es=>obtain⟨a,b⟩:=e;cases a<;>first|rfl|(rename_i x;cases x<;>rfl)
def tc(σ)(es):iE (es.map λx=>(x.1.bx σ,x.2.bx σ))=(iE es).map λx=>(x.1.bx σ,x.2.bx σ):=by
 cases es with
 |nil=>rfl
 |cons e es=>obtain⟨a,b⟩:=e;cases a<;>first|rfl|(rename_i x;cases x<;>rfl)
def aae.td(σ)(b:aae):(b.bx σ).rw=b.rw:=by
 cases b with
 |map es=>show(!dZ (es.map λx=>(x.1.bx σ,x.2.bx σ)))=!dZ es;rw[tb]
 |_=>rfl
def aae.PE{σ}{b:aae}:b.bx σ= .dead↔b= .dead:=by cases b<;>simp[aae.bx]
def aE.bx{σ:Nat->Nat}{ρ ρ':Env}(h:w6 σ ρ ρ'){w:World}{o:Option (Nat×Nat)}{cs:List AV}{rw:Access}(k:aE ρ w o cs rw):aE ρ' w o (bj.bx σ cs) rw:=by
 rcases k with⟨rfl,k⟩|⟨b,N,vs,rest,el,c,h1,d,h3,h4,a⟩
 ·exact .inl ⟨by simp[bj.bx],k⟩
 ·exact .inr ⟨b,N,vs,rest,el,c,h1,d,h3,aV.bx h _ _ h4,a.1,a.2.1,λe=>h.fz _ _ (a.2.2 e)⟩
def sJ(σ)(s):bj.bx σ (byteCells s)=byteCells s:=by
 rw[bj.mI];simp[byteCells,AV.bx,g_]
def bn.bx{σ:Nat->Nat}{ρ ρ':Env}(h:w6 σ ρ ρ'){w:World}{o:Option (Nat×Nat)}{b:aae}(k:bn ρ w o b):bn ρ' w o (b.bx σ):=by
 cases b with
 |cells cs rw=>exact aE.bx h k
 |rows n e f rw=>
  refine⟨λi hi=>by simp only[bj.mI,x_];exact k.1 i hi,?_⟩;have:=aE.bx h k.2;have H:bj.bx σ (rowsOf n f)=rowsOf n (λi=>bj.bx σ (f i)):=by simp only[bj.mI,rowsOf,List.map_flatMap]
  grind
 |str s rw=>have:=aE.bx h (cs:=byteCells s) k;rw[sJ]at this;exact this
 |map es=>
  obtain⟨b,N,ms,y,q,v,⟨C,h3,h4,E,F⟩,G⟩:=k;refine⟨b,N,ms,y,q,v,⟨C,?_,?_,by rw[tb];exact E,F⟩,λe=>G (by simpa using e)⟩
  ·have:=aV.bx h _ _ h3;rw[tc];simpa [bj.mI,g_]using this
  ·have:=aV.bx h _ _ h4;rw[tc];simpa [bj.mI,g_]using this
 |loop I J t nt L as O df=>
  obtain⟨b,N,d,c,fn,vs,q,v,h3,h4⟩:=k;refine⟨b,N,d,c,fn,vs,q,h _ _ v,⟨h3.1,λi=>?_⟩,h4⟩;have:=VR.bx h _ _ (h3.2 i);unfold cR at this⊢;rw[Tr.get_map];cases ht:t.get i with
  |none=>simp[VR]
  |some a=>rw[ht]at this;simpa using this
 |tL=>exact k
 |iter l=>obtain⟨b,N,m,c,since,last,q,v,h3⟩:=k;exact⟨b,N,m,c,since,last,q,h _ _ v,h3⟩
 |jn n K=>exact k
 |gy l since S=>obtain⟨b,N,m,c,q,v,h3⟩:=k;exact⟨b,N,m,c,q,h _ _ v,h3⟩
 |dK n K Q D=>
  obtain⟨b,N,u,q,v,h3,h4⟩:=k;refine⟨b,N,u,q,v,λi hi=>VR.bx h _ _ (h3 i hi),λj a e=>?_⟩;cases D with
  |none=>cases e
  |some x=>cases e;exact⟨(h4 _ _ A).1,VR.bx h _ _ (h4 _ _ A).2⟩
 |dead=>trivial
def AH.blank(N:Nat):AH:={n:=N,t:=.e}
def AH.up(H:AH)(N:Nat):AH:={n:=N,t:=H.t}
def Rel.up{c ρ H w}(h:Rel c ρ H w){N}(a:H.n<=N):Rel c ρ (H.up N) w :=
 ⟨h.eB,h.sep,h.iB,h.gY,h.size,h.os,h.output,h.tape,λl hl=>h.top l (p_ a hl),h.eZ,h.hid,λl hl=>⟨Nat.lt_of_lt_of_le (h.env l hl).1 a,(h.env l hl).2⟩,λl hl=>h.low l (p_ a hl),h.sY,h.sy,h.tJ,h.sZ⟩
def fE.blank(c:fE)(ρ:Env)(H:AH)(w:World)(N:Nat):fE:=c.A2 ρ (H.up N) w λ_=>True
def Rel.blank{c ρ H w}(h:Rel c ρ H w){N}(a:H.n<=N):Rel (c.blank ρ H w N) ρ (.blank N) w :=
 (h.up a).A2 (HM:=.blank N) A λ_=> .inl ⟨trivial,rfl⟩
def Rel.Xr{c ρ ρ' H H' w w'}(h:Rel c ρ H w){N}(f:H.n<=N)(d:Rel (c.blank ρ H w N) ρ' H' w')(i:H'.n=N):Ext ρ ρ'/\Rel c ρ' H w':=by
 obtain⟨j,a⟩:=(h.up f).Px (H2:=H.up N) d i.symm zA;refine⟨j,⟨a.eB,a.sep,a.iB,a.gY,a.size,a.os,a.output,a.tape,λl hl=>?_,a.eZ,a.hid,λl hl=>?_,h.low,a.sY,a.sy,a.tJ,a.sZ⟩⟩
 ·by_cases b:l<N
  ·rw[(d.env l b).2];exact h.top l hl
  ·exact a.top l (Nat.le_of_not_lt b)
 ·obtain⟨m,o⟩:=h.env l hl;exact⟨m,(a.env l hl).2⟩
def lM(N ℓ:Nat)(i:Nat):Nat:=bif c_ i N then ℓ else i
def HD(N ℓ):lM N ℓ N=ℓ:=by simp[lM]
def PF{N ℓ i}(h:i≠N):lM N ℓ i=i:=by
 have:c_ i N=false:=by rw[Bool.eq_false_iff];intro e;exact(by simp_all)
 simp[lM,this]
def Rel.Xs{c:fE}{ρ ρ':Env}{H H':AH}{w w':World}(h:Rel c ρ H w){N:Nat}(hN:H.n<=N)(o:Rel (c.blank ρ H w N) ρ' H' w')(hn:H'.n=N+1){ℓ:Nat}(hℓ:ℓ<H.n)(S:H.get ℓ= .dead)(U:ρ ℓ=e_)(V :¬ c.E ℓ):
  ∃j,(∀l,l≠ℓ->j l=ρ l)/\Ext ρ j/\w6 (lM N ℓ) ρ' j/\Rel c j (H.set ℓ ((H'.get N).bx (lM N ℓ))) w':=by
 have dB:∀{b:aae},b.rw=true->b≠ .dead:=λh e=>by rw[e]at h;cases h
 obtain⟨j,u⟩:∃j:Env,j=⟨λi=>if i=ℓ then ρ' N else ρ i,ρ'.fz⟩:=⟨_,rfl⟩;have s:j.fz=ρ'.fz:=by rw[u]
 have q:j ℓ=ρ' N:=by rw[u];simp
 have off:∀l,l≠ℓ->j l=ρ l:=by simp_all
 have hx:Ext ρ j:=by
  refine⟨λl x e=>?_,λk vs e=>by rw[s];exact o.sZ k vs e⟩;have:l≠ℓ:=λJ=>Y
  rw[off l this];exact e
 have v:w6 (lM N ℓ) ρ' j:=by
  refine⟨λl x e=>?_,by simp_all⟩;by_cases f:l=N
  ·subst f;rw[HD,q];exact e
  ·rw[PF f];have P:l<N:=by
    refine Nat.lt_of_not_le λW=>?_
    have:ρ' l=e_:=o.top l O;rw[this]at e;cases e
   have T:=(o.env l P).2;have:l≠ℓ:=λJ=>by subst J;rw[T]at e;change ρ l=M x at e;rw[U]at e;cases e
   rw[off l this,<-e];exact T.symm
 have y:∀l r a,H.get l≠ .dead->ρ l=M (r,a)->(c.blank ρ H w N).Z r∨(c.blank ρ H w N).X r:=λl r a S f=>by
  cases d:(H.get l).rw with
  |true=>exact .inr (.inr ⟨l,a,trivial,d,f⟩)
  |false=>exact .inl (.inr ⟨l,a,trivial,S,d,f⟩)
 have C:∀l,l≠ℓ->(H.set ℓ ((H'.get N).bx (lM N ℓ))).get l=H.get l:=λl hl=>AH.aL _ _ (λe=>hl e.symm)
 have gs:(H.set ℓ ((H'.get N).bx (lM N ℓ))).get ℓ=(H'.get N).bx (lM N ℓ):=AH.get_set_same _ _ _;have Q:w.heap.size<=w'.heap.size:=o.size;refine⟨j,off,hx,v,λl=>?_,λl D r a R K d f F=>?_,λl r a d f t=>?_,λk L=>?_,p_ h.size Q,o.os.trans h.os,o.output.trans h.output,o.tape.trans h.tape,λl hl=>?_,λg hg=>?_,λl r a m f t=>?_,λl hl=>?_,λl hl=>?_,λk vs e=>o.sY k vs (by rw[<-s];exact e),λl r a d f=>?_,λk L=>by rw[s];exact o.tJ k (.inl L),λk vs e=>by rw[s];exact o.sZ k vs (h.sZ k vs e)⟩
 ·by_cases e:l=ℓ
  ·subst e;rw[gs,q];exact bn.bx v (o.eB N)
  ·rw[C l e,off l e];by_cases m:H.get l= .dead
   ·rw[m];trivial
   ·exact bn.world (λr a e=>(o.gY r (y l r a m e)).2) ((h.eB l).ext hx)
 ·by_cases e:l=ℓ
  ·subst e;have G:D≠l:=λe=>K e.symm
   rw[gs,aae.td]at d;rw[q]at f;rw[off D G]at F;rw[C D G];apply j_;intro m;rcases y D r R m F with t|t
   ·exact o.iB N r a d f t
   ·exact o.hid N r a (dB d) f t
  ·rw[C l e]at d;rw[off l e]at f;by_cases J:D=ℓ
   ·subst J;rw[gs];rw[q]at F;apply j_;intro m;exact o.hid N r R (λe=>m (by rw[e];rfl)) F (.inr ⟨l,a,trivial,d,f⟩)
   ·rw[off D J]at F;rw[C D J];exact h.sep l D r a R K d f F
 ·by_cases e:l=ℓ
  ·subst e;rw[gs,aae.td]at d;rw[q]at f;exact o.iB N r a d f (.inl t)
  ·rw[C l e]at d;rw[off l e]at f;exact h.iB l r a d f t
 ·obtain⟨f,F⟩:=h.gY k L;exact⟨f,((o.gY k (L.imp .inl .inl)).2).trans F⟩
 ·have I:H.n<=l:=hl;rw[off l O];exact h.top l I
 ·obtain⟨a,hM⟩:=h.eZ g hg
  grind
 ·by_cases e:l=ℓ
  ·subst e;rw[gs]at m;rw[q]at f;exact o.hid N r a (λe=>m (by rw[e];rfl)) f (.inl t)
  ·rw[C l e]at m;rw[off l e]at f;exact h.hid l r a m f t
 ·obtain⟨e1,e2⟩:=h.env l hl;have:l≠ℓ:=λe=>V (e▸hl)
  simp_all
 ·have I:H.n<=l:=hl;rw[C l O];exact h.low l I
 ·rw[s];by_cases e:l=ℓ
  ·subst e;rw[gs,aae.td]at d;rw[q]at f;exact o.sy N r a d f
  ·rw[C l e]at d;rw[off l e]at f;exact o.tJ r (.inr ⟨l,a,trivial,d,f⟩)
section
mutual
def AV.beq:AV->AV->Bool
 | .bool a,.bool b=>a==b
 | .int k x,.int v y=>z (k=v)&&z (x=y)
 | .str s,.str t=>z (s=t)
 | .ptr a b c d,.ptr a' h l o=>z (a=a')&&z (b=h)&&z (c=l)&&z (d=o)
 | .nilPtr,.nilPtr=>true
 | .slice a b c d e f,.slice a' h l o q m=>z (a=a')&&z (b=h)&&z (c=l)&&z (d=o)&&z (e=q)&&z (f=m)
 | .aD,.aD=>true
 | .own a b c,.own a' h l=>z (a=a')&&z (b=h)&&z (c=l)
 | .map a,.map b=>z (a=b)
 | .fn f a b,.fn m a' h=>z (f=m)&&bj.beq a a'&&bj.beq b h
 | .yield a,.yield b=>z (a=b)
 | .jm,.jm=>true
 | .nilIface,.nilIface=>true
 | .iface t a,.iface w a'=>z (t=w)&&a.beq a'
 | .agg a,.agg b=>bj.beq a b
 | .bM a,.bM b=>bj.beq a b
 | .any,.any=>true
 | .bW cs j,.bW u C=>bj.beq cs u&&z (j=C)
 | .addr a b,.addr a' h=>z (a=a')&&z (b=h)
 | .ae n e f,.ae D q m=>z (n=D)&&z (e=q)&&(d_ n).all λi=>bj.beq (f i) (m i)
 |_,_=>false
def bj.beq:List AV->List AV->Bool
 |[],[]=>true
 |a::as,b::E=>a.beq b&&bj.beq as E
 |_,_=>false
end
mutual
theorem AV.gF{ρ:Env}:∀(a b:AV)(v:Value),a.beq b=true->VR ρ b v->VR ρ a v
 | .fn f x y,b,v,h,d=>by cases b<;>simp only[AV.beq,lu,ba,bl]at h;obtain⟨⟨rfl,l⟩,m⟩:=h;simp only[VR]at d⊢;obtain⟨us,vs,rfl,h3,h4⟩:=d;exact⟨us,vs,rfl,bj.gF x _ _ l h3,bj.gF y _ _ m h4⟩
 | .iface t a,b,v,h,d=>by cases b<;>simp only[AV.beq,lu,ba,bl]at h;obtain⟨rfl,l⟩:=h;simp only[VR]at d⊢;obtain⟨u,rfl,h3⟩:=d;exact⟨u,rfl,AV.gF a _ _ l h3⟩
 | .agg as,b,v,h,d=>by cases b<;>simp only[AV.beq,lu]at h;simp only[VR]at d⊢;obtain⟨us,rfl,h3⟩:=d;exact⟨us,rfl,bj.gF as _ _ h h3⟩
 | .bM as,b,v,h,d=>by cases b<;>simp only[AV.beq,lu]at h;simp only[VR]at d⊢;obtain⟨us,rfl,h3⟩:=d;exact⟨us,rfl,bj.gF as _ _ h h3⟩
 | .bW cs j,b,v,h,d=>by cases b<;>simp only[AV.beq,lu,ba,bl]at h;obtain⟨l,rfl⟩:=h;simp only[VR]at d⊢;obtain⟨b,q,vs,rfl,h3,h4⟩:=d;exact⟨b,q,vs,rfl,h3,bj.gF cs _ _ l h4⟩
 | .ae n e f,b,v,h,d=>by
  cases b<;>simp only[AV.beq,lu,ba,bl,List.all_eq_true]at h;obtain⟨⟨rfl,rfl⟩,l⟩:=h;simp only[VR]at d⊢;rcases d with d|⟨b,q,c,a,o,rfl,m,h3⟩
  ·exact .inl d
  ·exact .inr ⟨b,q,c,a,o,rfl,m,λhl=>⟨(h3 hl).1,(h3 hl).2.1,λi hi=>⟨((h3 hl).2.2 i hi).1,bj.gF (f i) _ _ (l i (List.mem_range.2 hi)) ((h3 hl).2.2 i hi).2⟩⟩⟩
 | .addr _ _,b,v,h,d=>by cases b<;>simp only[AV.beq,lu,ba,bl,beq_iff_eq]at h<;>simp_all
 | .bool _,b,v,h,d=>by cases b<;>simp only[AV.beq,lu,ba,bl,beq_iff_eq]at h<;>simp_all
 | .int _ _,b,v,h,d=>by cases b<;>simp only[AV.beq,lu,ba,bl,beq_iff_eq]at h<;>simp_all
 | .str _,b,v,h,d=>by cases b<;>simp only[AV.beq,lu,ba,bl,beq_iff_eq]at h<;>simp_all
 | .ptr _ _ _ _,b,v,h,d=>by cases b<;>simp only[AV.beq,lu,ba,bl,beq_iff_eq]at h<;>simp_all
 | .nilPtr,b,v,h,d=>by cases b<;>simp only[AV.beq,lu,ba,bl,beq_iff_eq]at h<;>simp_all
 | .slice _ _ _ _ _ _,b,v,h,d=>by cases b<;>simp only[AV.beq,lu,ba,bl,beq_iff_eq]at h<;>simp_all
 | .aD,b,v,h,d=>by cases b<;>simp only[AV.beq,lu,ba,bl,beq_iff_eq]at h<;>simp_all
 | .own _ _ _,b,v,h,d=>by cases b<;>simp only[AV.beq,lu,ba,bl,beq_iff_eq]at h<;>simp_all
 | .map _,b,v,h,d=>by cases b<;>simp only[AV.beq,lu,ba,bl,beq_iff_eq]at h<;>simp_all
 | .yield _,b,v,h,d=>by cases b<;>simp only[AV.beq,lu,ba,bl,beq_iff_eq]at h<;>simp_all
 | .jm,b,v,h,d=>by cases b<;>simp only[AV.beq,lu,ba,bl,beq_iff_eq]at h<;>simp_all
 | .nilIface,b,v,h,d=>by cases b<;>simp only[AV.beq,lu,ba,bl,beq_iff_eq]at h<;>simp_all
 | .any,b,v,h,d=>by cases b<;>simp only[AV.beq,lu,ba,bl,beq_iff_eq]at h<;>simp_all
theorem bj.gF{ρ:Env}:∀(a b:List AV)(vs:List Value),bj.beq a b=true->aV ρ b vs->aV ρ a vs
 |[],[],_,_,h=>h
 |a::as,b::s,vs,h,d=>by simp only[bj.beq,ba]at h;simp only[aV]at d⊢;obtain⟨u,us,rfl,l,m⟩:=d;exact⟨u,us,rfl,AV.gF _ _ _ h.1 l,bj.gF _ _ _ h.2 m⟩
 |[],_::_,_,h,_=>by simp[bj.beq]at h
 |_::_,[],_,h,_=>by simp[bj.beq]at h
end
section
variable {R:Type} (X:RI R) (I:bg)
def ZM(o:Oper)(ev:Operand->AV)(H:AH)(K:AV->R):R :=
 match o.op with
 | .load t a=>wc X I t H (ev a) K
 | .slice t x lo hi mx=>CJ X I t (ev x) (lo.map ev) (hi.map ev) (mx.map ev) H K
 | .lookup t x i ok=>tQ X I t (ev x) (ev i) ok H K
 | .convert s d x=>match I.eI s,I.eI d with
  |some (.slice e),M .string=>CK X I e (ev x) H K
  |_,_=>X.fail
 | .call {callee:=.builtin .len,args,argTypes}=>match args.toList,argTypes.toList with
  |[x],[t]=>Ub X I t (ev x) H K
  |_,_=>X.fail
 |_=>X.fail
def fg(P:Program)(o:Oper)(ev:Operand->AV)(a:AH)(v:AV):Prop :=
 (∀c,o.op≠ .defer c)/\∀c ρ w (e:Operand->Value),(∀x,VR ρ (ev x) (e x))->Rel c ρ a w->∃u,(execOp e o).run P w= .ok (.value u) w/\VR ρ v u
inductive Cls where
 |im|reader|ye
def ZN(o:Oper):Cls :=
 match o.op with
 | .load .. | .slice .. | .lookup .. => .reader
 | .convert s _ _=>match I.eI s with
  |some (.slice _)=> .reader
  |_=> .ye
 | .store .. | .mapUpdate .. | .insert .. | .panic _=> .im
 | .call c=>match c.callee with
  | .builtin .len=> .reader
  | .builtin .min| .builtin .max=> .ye
  |_=> .im
 |_=> .ye
def vh(o:Oper):Bool :=
 match o.op with
 | .alloc _| .box .. | .buildSlice .. | .makeMap .. | .makeSlice .. | .convert .. =>true
 |_=>false
def PG{α:Type}(n:Nat)(K:Nat->α): α:=match n with|0=>K 0|m+1=>K (m+1)
theorem LR{α}(n)(K:Nat->α):PG n K=K n:=by cases n<;>rfl
structure PM where
 n:Nat
 l:List Nat
def PM.at(p:PM)(j:Nat):Nat:=p.l.getD (p.n-1-j) 0
def PM.pre(p:PM)(i j:Nat):Bool:=(p.at j).testBit i
def tY(p:PM)(a:List Edge):Nat:=a.foldl (λs e=>bif Region.binds .any e then s ||| 2^e.on ||| p.at e.on else s) 0
def PM.of:List Oper->PM->PM
 |[],p=>p
 |o::os,p=>PG (tY p o.after.toList) λm=>PM.of os {n:=p.n+1,l:=m::p.l}
def HE(o:Oper):List Tmp:=o.op.operands.toList.filterMap (λ| .tmp t=>M t|_=>e_)
def vi:List Nat->Nat->Bool
 |[],_=>false
 |a::as,x=>bif c_ a x then true else vi as x
theorem yf:∀{l x},vi l x=true↔x∈l
 |[],x=>by simp[vi]
 |a::as,x=>by
  simp only[vi];cases h:c_ a x with
  |true=>simp_all
  |false=>
   have b :¬ x=a:=λe=>by simp_all
   simp only[cond_false,List.mem_cons,b,false_or];exact yf
def St.mJ(G:Nat)(s:St)(o:Oper):Operand->AV
 | .tmp i=>bif vi (HE o) i then cR s.t i else .any
 |x=>s.ev G x
def iu(ops:Array Oper)(o:Oper):List Tmp :=
 o.dst.toList++HE o++(match o.guard with|some (j,_)=>(match(ops[j]?).bind (·.dst)with|some d=>[d]|none=>[])|none=>[])
def iw(o:Oper):Bool:=match ZN I o with| .im=>true|_=>false
def iG(ops:Array Oper)(p:PM):Bool :=
  (ops.toList.zipIdx.all λx => x.1.after.toList.all λe => !Region.binds .any e || f_ e.on x.2) &&
  (ops.toList.zipIdx.all λx => ops.toList.zipIdx.all λy =>
    !Nat.blt y.2 x.2 ||
      ((!(iw I x.1 && iw I y.1) || p.pre y.2 x.2) &&
       ((match y.1.dst with|some d => !(iu ops x.1).contains d|none => true) || p.pre y.2 x.2) &&
       ((match x.1.dst with|some d => !(iu ops y.1).contains d|none => true) || p.pre y.2 x.2)))
inductive Out where
 |skip
 |pure (a:AV)
 |fresh (a:AV) (b:aae)
 |read (a:AV)
 |im (a:AV) (H:AH)
structure kH where
 ix:Nat
 o:Oper
 s:St
 out:Out
def kH.next(n0:Nat)(e:kH):St :=
 match e.out with
 | .skip=>e.s.put e.o.dst (.bM [])
 | .pure v=>e.s.put e.o.dst v
 | .read v=>e.s.put e.o.dst v
 | .fresh v b=>(e.s.heap (e.s.H.set (n0+e.ix) b)).put e.o.dst v
 | .im v H=>(e.s.heap H).put e.o.dst v
def iH(p:PM)(n0 i:Nat):List Nat->AH->AH
 |[],H=>H
 |a::as,H=>bif p.pre a i then iH p n0 i as H else(iH p n0 i as H).set (n0+a) .dead
def fH(p:PM)(n0 i:Nat)(H:AH):List Nat->AH->AH
 |[],H'=>H'
 |a::as,H'=>bif p.pre a i then fH p n0 i H as H' else(fH p n0 i H as H').set (n0+a) (H.get (n0+a))
def rS(p:PM)(al:List Nat)(n0 i:Nat)(o:Oper)(ev:Operand->AV)(v:AV)(K:R):List kH->R
 |[]=>K
 |e::es=>match e.out with
  | .im _ _=>bif p.pre e.ix i then rS p al n0 i o ev v K es
   else ZM X I o ev (iH p n0 i al e.s.H) λa=>X.ag (v.beq a) (rS p al n0 i o ev v K es)
  |_=>rS p al n0 i o ev v K es
def rT(p:PM)(al:List Nat)(n0 h:Nat)(H:AH)(K:R):List kH->R
 |[]=>K
 |e::es=>match e.out with
  | .read v=>bif p.pre e.ix h then rT p al n0 h H K es
   else ZM X I e.o (e.s.mJ I.G e.o) (iH p n0 e.ix al H) λa=>X.ag (v.beq a) (rT p al n0 h H K es)
  |_=>rT p al n0 h H K es
def J9(b:j6 R)(round:iU R)(p:PM)(al:List Nat)(n0 N i:Nat)(c:List kH)(o:Oper)(s:St)(a:kH->R):R :=
 match ZN I o with
 | .ye=>Es X I o (s.mJ I.G o) (.blank N) λv H'=>
   bif c_ H'.n N then a {ix:=i,o,s,out:=.pure v}
   else bif c_ H'.n (N+1)&&vh o then a {ix:=i,o,s,out:=.fresh (v.bx (lM N (n0+i))) ((H'.get N).bx (lM N (n0+i)))}
   else X.fail
 | .reader=>ZM X I o (s.mJ I.G o) (iH p n0 i al s.H) λv=>rS X I p al n0 i o (s.mJ I.G o) v (a {ix:=i,o,s,out:=.read v}) c
 | .im=>Uj X I b round o (s.mJ I.G o) (iH p n0 i al s.H) (λv H'=>bif C_ H'.n N then rT X I p al n0 i (fH p n0 i s.H al H') (a {ix:=i,o,s,out:=.im v (fH p n0 i s.H al H')}) c else X.fail) (λ_ _=>X.fail)
def yg(a:j6 R)(round:iU R)(ops:Array Oper)(p:PM)(al:List Nat)(n0 N:Nat)(K:St->R):List Oper->Nat->List kH->St->R
 |[],_,_,s=>K s
 |o::rest,i,c,s=>
  match o.guard with
  |none=>J9 X I a round p al n0 N i c o s λe=>yg a round ops p al n0 N K rest (i+1) (e::c) (e.next n0)
  |some (j,want)=>
   match(ops[j]?).bind (·.dst)with
   |none=>X.fail
   |some d=>
    match cR s.t d with
    | .bool b=>
     let run (s:St):=J9 X I a round p al n0 N i c o s λe=>yg a round ops p al n0 N K rest (i+1) (e::c) (e.next n0)
     let skip (s:St):=yg a round ops p al n0 N K rest (i+1) ({ix:=i,o,s,out:=.skip}::c) (kH.next n0 {ix:=i,o,s,out:=.skip})
     X.cond b (λ_=>(bif want then run else skip) (s.put (M d) (.bool true))) (λ_=>(bif want then skip else run) (s.put (M d) (.bool false)))
    | .bM []=>yg a round ops p al n0 N K rest (i+1) ({ix:=i,o,s,out:=.skip}::c) (kH.next n0 {ix:=i,o,s,out:=.skip})
    |_=>X.fail
def nQ:Nat->List Oper->List Nat
 |_,[]=>[]
 |i,o::os=>bif (match ZN I o with| .ye=>vh o|_=>false)then i::nQ (i+1) os else nQ (i+1) os
def drawn(N:Nat):qI R:=λa round ops k s=>
 bif iG I ops (PM.of ops.toList {n:=0,l:=[]})&&C_ (s.H.n+ops.size) N then
  yg X I a round ops (PM.of ops.toList {n:=0,l:=[]}) (nQ I 0 ops.toList) s.H.n N k.n ops.toList 0 [] (s.heap (s.H.up (s.H.n+ops.size)))
 else X.fail
end
section
variable {R:Type} {X:RI R} {sem:R->Prop} (hX:X.Ok sem) {I:bg} {P:Program} (hI:I.Ok P)
include hX hI in
theorem HF{o:Oper}{ev:Operand->AV}{H:AH}{K:AV->R}(h:sem (ZM X I o ev H K)):∃v,sem (K v)/\fg P o ev H v:=by
 unfold ZM at h;split at h
 ·rename_i t a f;obtain⟨b,j,k⟩:=qC hX hI h;refine⟨b,j,by simp[f],λc ρ w e g l=>?_⟩;obtain⟨v,h3,h4⟩:=k c ρ w (e a) (g a) l;exact⟨v,by simp[execOp,f,h3],h4⟩
 ·rename_i t x lo hi mx f;obtain⟨b,j,k⟩:=Bl hX hI H h;refine⟨b,j,by simp[f],λc ρ w e g l=>?_⟩;obtain⟨u,h3,h4⟩:=k c ρ w (e x) (lo.map e) (hi.map e) (mx.map e) (g x) (mr g lo) (mr g hi) (mr g mx) l;exact⟨u,by simp[execOp,f,h3],h4⟩
 ·rename_i t x i ok f;obtain⟨b,j,k⟩:=wg hX hI h;refine⟨b,j,by simp[f],λc ρ w e g l=>?_⟩;obtain⟨u,h3,h4⟩:=k c ρ w (e x) (e i) (g x) (g i) l;exact⟨u,by simp[execOp,f,h3],h4⟩
 ·rename_i s d x f;split at h
  ·rename_i e n p;obtain⟨b,j,k⟩:=Bm hX hI n p h;refine⟨b,j,by simp[f],λc ρ w e g l=>?_⟩;obtain⟨u,h3,h4⟩:=k c ρ w (e x) (g x) l;exact⟨u,by simp[execOp,f,h3],h4⟩
  ·exact zR
 ·rename_i args q f;split at h
  ·rename_i x t hx ht;have ha:args= #[x]:=by apply a_;simpa using hx
   have m:q= #[t]:=by apply a_;simpa using ht
   subst ha m;obtain⟨b,j,k⟩:=J0 hX hI h #[t] rfl o.type;refine⟨b,j,by simp[f],λc ρ w e g l=>?_⟩;obtain⟨u,h3,h4⟩:=k c ρ w (e x) (g x) l;exact⟨u,by simp[execOp,f,resolve,invoke,builtin,h3],h4⟩
  ·exact zR
 ·exact zR
end
end
section
def Bu(P:Program)(o:Oper)(ev:Operand->AV)(N:Nat)(v:AV)(H':AH):Prop :=
 (∀c,o.op≠ .defer c)/\∀c ρ w (e:Operand->Value),(∀x,VR ρ (ev x) (e x))->Rel c ρ (.blank N) w->jE P (execOp e o) c ρ w v H'
def rU(ops:Array Oper)(e:kH):Prop :=
 e.o.guard=e_∨∃j a d,e.o.guard=M (j,a)/\(ops[j]?).bind (·.dst)=M d/\cR e.s.t d= .bool a
def PH(ops:Array Oper)(e:kH):Prop :=
 ∃j a d,e.o.guard=M (j,a)/\(ops[j]?).bind (·.dst)=M d/\(cR e.s.t d= .bool (!a)∨cR e.s.t d= .bM [])
structure j7 (s s':St):Prop where
 nt:s'.nt=s.nt
 H:s'.H=s.H
 df:s'.df=s.df
 t:∀a,cR s'.t a=cR s.t a
theorem j7.refl(s):j7 s s:=⟨rfl,rfl,rfl,λ_=>rfl⟩
theorem j7.lit{s d b}(h:cR s.t d= .bool b):j7 s (s.put (M d) (.bool b)):=by
 simp only[St.put];cases f_ d s.nt with
 |true=>
  refine⟨rfl,rfl,rfl,λu=>?_⟩;simp only[cond_true];rw[qH]
  grind
 |false=>exact j7.refl s
section
variable (P:Program) (I:bg) (ops:Array Oper) (p:PM) (al:List Nat) (n0 N:Nat) (s0:St)
def PI(e:kH):Prop :=
 ops[e.ix]? =M e.o/\
 match e.out with
 | .skip=>PH ops e
 | .pure v=>rU ops e/\iw I e.o=false/\∃H',H'.n=N/\Bu P e.o (e.s.mJ I.G e.o) N v H'
 | .fresh v b=>rU ops e/\iw I e.o=false/\e.ix∈al/\∃a H',H'.n=N+1/\Bu P e.o (e.s.mJ I.G e.o) N a H'/\v=a.bx (lM N (n0+e.ix))/\b=(H'.get N).bx (lM N (n0+e.ix))
 | .read v=>rU ops e/\iw I e.o=false/\fg P e.o (e.s.mJ I.G e.o) (iH p n0 e.ix al e.s.H) v
 | .im v H2=>rU ops e/\iw I e.o=true/\∃H',tU P I e.o (e.s.mJ I.G e.o) (iH p n0 e.ix al e.s.H) (.ret v H')/\H2=fH p n0 e.ix e.s.H al H'/\H'.n<=N
def gG(E:Nat->kH):Nat->St
 |0=>s0
 |j+1=>(E j).next n0
structure jA (i:Nat) (E:Nat->kH) (s:St):Prop where
 ix:∀a,a<i->(E a).ix=a
 ok:∀a,a<i->PI P I ops p al n0 N (E a)
 same:∀a,a<i->j7 (gG n0 s0 E a) (E a).s
 last:s=gG n0 s0 E i
 back:∀a h c b Hh,a<i->h<a->(E a).out= .read c->(E h).out= .im b Hh->p.pre h a=false->fg P (E a).o ((E a).s.mJ I.G (E a).o) (iH p n0 a al (E h).s.H) c
 WM:∀a h c b Hh,h<i->a<h->(E a).out= .read c->(E h).out= .im b Hh->p.pre a h=false->fg P (E a).o ((E a).s.mJ I.G (E a).o) (iH p n0 a al Hh) c
end
section
variable {P:Program} {I:bg} {ops:Array Oper} {p:PM} {al:List Nat} {n0 N:Nat} {s0:St}
theorem yh{E a i}(h:∀j,j<i->a j=E j):gG n0 s0 a i=gG n0 s0 E i:=by
 cases i with
 |zero=>rfl
 |succ i=>simp only[gG];grind
theorem jA.snoc{i E s}(h:jA P I ops p al n0 N s0 i E s)(e)(hi:e.ix=i)(y:PI P I ops p al n0 N e)(w:j7 s e.s)
  (C:∀h v u b,h<i->e.out= .read v->(E h).out= .im u b->p.pre h i=false->fg P e.o (e.s.mJ I.G e.o) (iH p n0 i al (E h).s.H) v)
  (D:∀j v u b,j<i->(E j).out= .read v->e.out= .im u b->p.pre j i=false->fg P (E j).o ((E j).s.mJ I.G (E j).o) (iH p n0 j al b) v):
  ∃a,(∀j,j<i->a j=E j)/\a i=e/\jA P I ops p al n0 N s0 (i+1) a (e.next n0):=by
 obtain⟨a,t⟩:∃a:Nat->kH,a=λj=>if j=i then e else E j:=⟨_,rfl⟩
 have c:a i=e:=by rw[t];simp
 have off:∀j,j<i->a j=E j:=λj d=>Y
 refine⟨a,off,c,λj d=>?_,λj d=>?_,λj d=>?_,?_,λj k v u b d f l m h3=>?_,λj k v u b f d l m h3=>?_⟩
 ·by_cases q:j=i
  grind
  ·rw[off j O];exact h.ix j O
 ·by_cases q:j=i
  grind
  ·rw[off j O];exact h.ok j O
 ·by_cases q:j=i
  ·subst q;rw[c,yh (λk f=>off k f),<-h.last];exact w
  ·rw[off j O,yh (λk f=>off k O)];exact h.same j O
 ·simp only[gG,c]
 ·by_cases q:j=i
  grind
  ·rw[off j O]at l⊢;rw[off k O]at m⊢;exact h.back j k v u b O f l m h3
 ·by_cases q:k=i
  grind
  ·rw[off j O]at l⊢;rw[off k O]at m;exact h.WM j k v u b O d l m h3
end
section
variable {R:Type} {X:RI R} {sem:R->Prop} (hX:X.Ok sem) {I:bg} {P:Program} (hI:I.Ok P)
theorem fg.beq{P o ev a v b}(h:fg P o ev a b)(d:v.beq b=true):fg P o ev a v :=
 ⟨h.1,λc ρ w e f i=>by obtain⟨u,j,l⟩:=h.2 c ρ w e f i;exact⟨u,j,AV.gF _ _ _ d l⟩⟩
include hX hI in
theorem pI{p:PM}{al:List Nat}{n0 i:Nat}{o:Oper}{ev:Operand->AV}{v:AV}{K:R}:∀{m:List kH},sem (rS X I p al n0 i o ev v K m)->
  sem K/\∀e∈m,∀u n,e.out= .im u n->p.pre e.ix i=false->fg P o ev (iH p n0 i al e.s.H) v
 |[],h=>⟨h,λe q=>by cases q⟩
 |e::m,h=>by
  simp only[rS]at h;split at h
  ·rename_i u n f;cases hp:p.pre e.ix i with
   |true=>
    rw[hp]at h;obtain⟨j,g⟩:=pI h;refine⟨j,λk a l d c b=>?_⟩;rcases List.mem_cons.1 a with rfl|a
    ·rw[hp]at b;cases b
    ·exact g k a l d c b
   |false=>
    rw[hp]at h;obtain⟨w,j,g⟩:=HF hX hI h;obtain⟨h3,h4⟩:=hX.ag _ _ j;have g:=g.beq h3;obtain⟨r,t⟩:=pI h4;refine⟨r,λk a l d c b=>?_⟩;rcases List.mem_cons.1 a with rfl|a
    ·exact g
    ·exact t k a l d c b
  ·rename_i f;obtain⟨j,g⟩:=pI h;refine⟨j,λk a l d c b=>?_⟩;rcases List.mem_cons.1 a with rfl|a
   ·exact absurd c (f _ _)
   ·exact g k a l d c b
include hX hI in
theorem pJ{p:PM}{al:List Nat}{n0 k:Nat}{H:AH}{K:R}:∀{l:List kH},sem (rT X I p al n0 k H K l)->
  sem K/\∀e∈l,∀v,e.out= .read v->p.pre e.ix k=false->fg P e.o (e.s.mJ I.G e.o) (iH p n0 e.ix al H) v
 |[],h=>⟨h,λe m=>by cases m⟩
 |e::l,h=>by
  simp only[rT]at h;split at h
  ·rename_i v d;cases hp:p.pre e.ix k with
   |true=>
    rw[hp]at h;obtain⟨i,f⟩:=pJ h;refine⟨i,λj a g b c=>?_⟩;rcases List.mem_cons.1 a with rfl|a
    ·rw[hp]at c;cases c
    ·exact f j a g b c
   |false=>
    rw[hp]at h;obtain⟨g,i,f⟩:=HF hX hI h;obtain⟨h3,h4⟩:=hX.ag _ _ i;have f:=f.beq h3;obtain⟨n,q⟩:=pJ h4;refine⟨n,λj a g b c=>?_⟩;rcases List.mem_cons.1 a with rfl|a
    ·rw[d]at b;cases b;exact f
    ·exact q j a g b c
  ·rename_i d;obtain⟨i,f⟩:=pJ h;refine⟨i,λj a g b c=>?_⟩;rcases List.mem_cons.1 a with rfl|a
   ·exact absurd b (d _)
   ·exact f j a g b c
def Ka(I:bg)(ops:Array Oper)(al:List Nat):Prop := ∀i o,ops[i]? =M o->(∃u,ZN I o=u/\u= .ye)->vh o=true->i∈al
include hX hI in
theorem Kb{a:j6 R}(x:jq P I sem a){round:iU R}(q:iV P I sem round){ops:Array Oper}{p:PM}{al:List Nat}(V:Ka I ops al){n0 N:Nat}{s0:St}{K:St->R}:
  ∀(l:List Oper)(i:Nat)(s:St)(E:Nat->kH),ops.toList.drop i=l->i<=ops.size->jA P I ops p al n0 N s0 i E s->sem (yg X I a round ops p al n0 N K l i (((d_ i).map E).reverse) s)->
  ∃sf m,sem (K sf)/\jA P I ops p al n0 N s0 ops.size m sf
 |[],i,s,E,hl,aa,ht,h=>by
  simp only[yg]at h;have hi:ops.size<=i:=by have:=congrArg List.length hl;simp at this;omega
  have:i=ops.size:=O;subst this;exact⟨s,E,h,ht⟩
 |o::rest,i,s,E,hl,aa,ht,h=>by
  have L:ops[i]? =M o:=by
   have:(ops.toList.drop i)[0]? =M o:=by rw[hl];rfl
   rw[t_]at this;simpa using this
  have Q:ops.toList.drop (i+1)=rest:=by rw[<-y_,hl];rfl
  have mem:∀j,j<i->E j∈((d_ i).map E).reverse:=λj hj=>by simp;exact⟨j,hj,rfl⟩
  have next:∀(e:kH)(m:Nat->kH),(∀j,j<i->m j=E j)->m i=e->e::((d_ i).map E).reverse=((d_ (i+1)).map m).reverse:=λe m c D=>by rw[List.range_succ,List.map_append,List.reverse_append];simp only[n_,A_,List.reverse_cons,List.reverse_nil,List.nil_append,List.singleton_append,D];congr 2;exact List.map_congr_left λj hj=>(c j (List.mem_range.1 hj)).symm
  have go:∀e:kH,e.ix=i->PI P I ops p al n0 N e->j7 s e.s->
    (∀h v u S,h<i->e.out= .read v->(E h).out= .im u S->p.pre h i=false->fg P e.o (e.s.mJ I.G e.o) (iH p n0 i al (E h).s.H) v)->
    (∀j v u S,j<i->(E j).out= .read v->e.out= .im u S->p.pre j i=false->fg P (E j).o ((E j).s.mJ I.G (E j).o) (iH p n0 j al S) v)->
    sem (yg X I a round ops p al n0 N K rest (i+1) (e::((d_ i).map E).reverse) (e.next n0))->∃sf m,sem (K sf)/\jA P I ops p al n0 N s0 ops.size m sf:=by
   intro e c D h3 h4 h5 h6;obtain⟨m,k1,k2,k3⟩:=ht.snoc e c D h3 h4 h5;rw[next e m k1 k2]at h6;exact Kb x q V rest (i+1) _ m Q (by have:=(Array.getElem?_eq_some_iff.1 L).1;omega) k3 h6
  have y:∀k:St,j7 s k->(∀out,rU ops {ix:=i,o,s:=k,out})->
    sem (J9 X I a round p al n0 N i (((d_ i).map E).reverse) o k λe=>yg X I a round ops p al n0 N K rest (i+1) (e::((d_ i).map E).reverse) (e.next n0))->
    ∃sf m,sem (K sf)/\jA P I ops p al n0 N s0 ops.size m sf:=by
   intro k r U h;unfold J9 at h;split at h
   ·rename_i f;have F:iw I o=false:=by simp[iw,f]
    have W:=xX hX h;obtain⟨v,H',c,D⟩:=CM hX hI h;cases hn:c_ H'.n N with
    |true=>rw[hn]at c;exact go {ix:=i,o,s:=k,out:=.pure v} rfl ⟨L,U _,F,H',dV hn,W,D⟩ r (λ_ _ _ _ _ e=>zG) (λ_ _ _ _ _ _ e=>zG) c
    |false=>
     rw[hn]at c;cases C:c_ H'.n (N+1)&&vh o with
     |true=>simp only[C,cond_true,cond_false]at c;simp only[ba]at C;exact go {ix:=i,o,s:=k,out:=.fresh (v.bx (lM N (n0+i))) ((H'.get N).bx (lM N (n0+i)))} rfl ⟨L,U _,F,V i o L ⟨_,f,rfl⟩ C.2,v,H',dV C.1,⟨W,D⟩,rfl,rfl⟩ r (λ_ _ _ _ _ e=>zG) (λ_ _ _ _ _ _ e=>zG) c
     |false=>simp only[C,cond_false]at c;exact absurd c hX.fail
   ·rename_i f;have F:iw I o=false:=by simp[iw,f]
    obtain⟨v,c,D⟩:=HF hX hI h;obtain⟨h3,h4⟩:=pI hX hI (P:=P) c;refine go {ix:=i,o,s:=k,out:=.read v} rfl ⟨L,U _,F,D⟩ r (λF v' u S w e1 e2 hp=>?_) (λ_ _ _ _ _ _ e=>zG) h3;cases e1;exact h4 _ (mem F w) u S e2 (by rw[ht.ix F w];exact hp)
   ·rename_i f;have F:iw I o=true:=by simp[iw,f]
    obtain⟨out,c,D⟩:=Hy hX hI x q h;cases out with
    |rL v H'=>exact absurd c hX.fail
    |ret v H'=>
     simp only[CO.sem]at c;cases hle:C_ H'.n N with
     |false=>rw[hle]at c;exact absurd c hX.fail
     |true=>
     rw[hle]at c;obtain⟨h3,h4⟩:=pJ hX hI (P:=P) c;refine go {ix:=i,o,s:=k,out:=.im v (fH p n0 i k.H al H')} rfl ⟨L,U _,F,H',D,rfl,fT hle⟩ r (λ_ _ _ _ _ e=>zG) (λj v' u S w e1 e2 hp=>?_) h3;cases e2;have:=h4 _ (mem j w) v' e1 (by rw[ht.ix j w];exact hp);rw[ht.ix j w]at this;exact this
  have skip:∀k:St,j7 s k->PH ops {ix:=i,o,s:=k,out:=.skip}->sem (yg X I a round ops p al n0 N K rest (i+1) ({ix:=i,o,s:=k,out:=.skip}::((d_ i).map E).reverse) (kH.next n0 {ix:=i,o,s:=k,out:=.skip}))->
    ∃sf m,sem (K sf)/\jA P I ops p al n0 N s0 ops.size m sf:=λk r U h=>
   go {ix:=i,o,s:=k,out:=.skip} rfl ⟨L,U⟩ r (λ_ _ _ _ _ e=>zG) (λ_ _ _ _ _ _ e=>zG) h
  simp only[yg]at h;split at h
  ·rename_i T;exact y s (j7.refl s) (λout=> .inl T) h
  ·rename_i j Y T;split at h
   ·exact zR
   ·rename_i d Z;split at h
    ·rename_i b hb;have hc:=hX.cond _ _ _ h;have g:j7 s (s.put (M d) (.bool b)):=j7.lit hb;have J:cR (s.put (M d) (.bool b)).t d= .bool b:=(g.t d).trans hb;cases b<;>cases Y<;>simp only[if_true,lu,if_false,cond_true,cond_false]at hc
     ·exact y _ g (λout=> .inr ⟨j,_,d,T,Z,J⟩) hc
     ·exact skip _ g ⟨j,_,d,T,Z,.inl J⟩ hc
     ·exact skip _ g ⟨j,_,d,T,Z,.inl J⟩ hc
     ·exact y _ g (λout=> .inr ⟨j,_,d,T,Z,J⟩) hc
    ·rename_i hb;exact skip s (j7.refl s) ⟨j,_,d,T,Z,.inr hb⟩ h
    ·exact zR
end
end
end
end Go.Sx
