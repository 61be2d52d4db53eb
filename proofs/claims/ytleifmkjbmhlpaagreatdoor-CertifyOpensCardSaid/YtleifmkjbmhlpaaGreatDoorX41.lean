/- CertifyOpens is proved, part 41. -/
import Derived.Test.YtleifmkjbmhlpaaGreatDoorX38
import Derived.Test.YtleifmkjbmhlpaaGreatDoorX40
import Derived.Test.YtleifmkjbmhlpaaGreatDoorCards
import Derived.Test.YtleifmkjbmhlpaaGreatDoorTie
import Derived.LaidMore
import Derived.LaidHandle
import Derived.OpenShut
import Derived.Deep.DeepHandedRow
import Derived.Deep.Slices
set_option linter.unusedVariables false
set_option linter.unusedSimpArgs false
set_option linter.unusedSectionVars false
section
set_option maxRecDepth 1000000
namespace Go.Sx
open Go Go.Deep Go.Proofs Go.ChangeShapes Go.WideShapes
open Go.Proofs.YtleifmkjbmhlpaaGreatDoor (Rows.certifyOpensRow Rows.certifySmallRow)
theorem laid3:Rows.certifyOpensRow.laid=Rows.certifySmallRow.laid:=rfl
theorem body3:(II.body 3).isSome=true:=by kernel_rfl
theorem law_call3 {H:Type} {enc:TypeId×Value→H} {W:World} {base:Nat} {args:Array Value} {ds:List (DataW H)} {ps:List MemPlace} {sp:Nat→Bool}
  (hval : ∀ (j:Nat) t v,Tryz.f3.params[j]? =some t→args[j]? =some v→Value.okWide Tryz.prog W .any base t v)
  (hA:DataW.TrodAll enc Tryz.prog W 0 sp true Tryz.f3.params.toList args.toList ds ps) (hL:laidMetH Tryz.prog Rows.certifyOpensRow.laid W):
  Calls Tryz.prog 3 args W fun e W'=>e= .returned (.bool true)∧OldKept W W':=by
 rw [Tryz.params3] at hA hval
 rw [laid3] at hL
 obtain ⟨v0,v1,d0,d1,p0,p1,rfl,_,_,h0,h1⟩:=trodAll_two hA
 obtain ⟨b,el3,fr3,ms,clock,a1,a2,a3⟩:=laid_aggs hL
 have hρ:=envOf_fz W b
 have hr:=rel_Hs (laid_ops hρ hL) (laid_zero hL) (laid_round hL) ⟨el3,fr3,ms,clock,a1,a2,a3⟩
 have c3:Tryz.prog.cellsOf 3=1:=c1.1
 have c81:Tryz.prog.cellsOf 81=4:=c2.2.2.2.1
 have c72:Tryz.prog.cellsOf 72=3:=c2.2.2.2.2.1
 have c23:Tryz.prog.cellsOf 23=1:=c2.2.2.2.2.2.2
 obtain ⟨sa,sl,sc,rfl⟩:=okWide_slice Tryz.underlying22 (hval 0 22 v0 rfl rfl)
 obtain ⟨fuel0,h0⟩:=h0
 obtain ⟨n,X,hv0,hX⟩:=open_rows hρ Tryz.underlying22 Tryz.underlying81 Tryz.underlying3 c3 c81 (by omega) h0
 obtain ⟨cs,rfl,hsz⟩:=okWide_struct Tryz.underlying25 (hval 1 25 v1 rfl rfl)
 obtain ⟨fuel1,h1⟩:=h1
 obtain ⟨xs,m',_,_,_,hxl,hel⟩:=DataW.trod_struct Tryz.underlying25 h1
 have hl:cs.toList.length=4:=by rw [Array.length_toList,hsz];exact c2.2.2.2.2.2.1
 match hcs:cs.toList,hl,xs,hxl,hel with
 | [u0,u1,u2,u3],_,[x0,x1,x2,x3],_,hel=>
  have hcs':(Value.agg cs).cells.toList=[u0,u1,u2,u3]:=hcs
  have g0:DataW.trod enc Tryz.prog W 0 sp true m' 3 (([u0,u1,u2,u3].drop 0).take (Tryz.prog.cellsOf 3))=some x0:=hel 0 _ rfl
  have g1:DataW.trod enc Tryz.prog W 0 sp true m' 23 (([u0,u1,u2,u3].drop 1).take (Tryz.prog.cellsOf 23))=some x1:=hel 1 _ rfl
  have g2:DataW.trod enc Tryz.prog W 0 sp true m' 3 (([u0,u1,u2,u3].drop 2).take (Tryz.prog.cellsOf 3))=some x2:=hel 2 _ rfl
  have g3:DataW.trod enc Tryz.prog W 0 sp true m' 3 (([u0,u1,u2,u3].drop 3).take (Tryz.prog.cellsOf 3))=some x3:=hel 3 _ rfl
  rw [c3] at g0 g2 g3
  rw [c23] at g1
  obtain ⟨z0,e0,_,w0⟩:=DataW.trod_int Tryz.underlying3 g0
  obtain ⟨z2,e2,_,w2⟩:=DataW.trod_int Tryz.underlying3 g2
  obtain ⟨z3,e3,_,w3⟩:=DataW.trod_int Tryz.underlying3 g3
  have q0:u0= .int .i64 z0:=by have:=congrArg (fun l=>List.getD l 0 u0) e0;exact this
  have q2:u2= .int .i64 z2:=by have:=congrArg (fun l=>List.getD l 0 u2) e2;exact this
  have q3:u3= .int .i64 z3:=by have:=congrArg (fun l=>List.getD l 0 u3) e3;exact this
  obtain ⟨m,C,hv1,hC⟩:=open_rows hρ Tryz.underlying23 Tryz.underlying72 Tryz.underlying3 c3 c72 (by omega) g1
  clear e0 e2 e3
  subst q0 q2 q3
  have ecs:cs=[.int .i64 z0,u1,.int .i64 z2,.int .i64 z3].toArray:=by apply Array.ext';exact hcs
  have hv:VRs (envOf W b) [.fslice n 4 (xRow X),.agg [.int .i64 z0,.fslice m 3 (qRow C),.int .i64 z2,.int .i64 z3]] [.slice sa sl sc,.agg cs]:=by
   refine VRs.cons_iff.2 ⟨hv0,VRs.cons_iff.2 ⟨?_,rfl⟩⟩
   simp only [VR]
   exact ⟨_,by rw [ecs],VRs.cons_iff.2 ⟨by simp only [VR],VRs.cons_iff.2 ⟨hv1,VRs.cons_iff.2 ⟨by simp only [VR],VRs.cons_iff.2 ⟨by simp only [VR],rfl⟩⟩⟩⟩⟩
  rcases law3_ok (rows4 n X hX) (rows3 m C hC) w0 w2 w3 (ctxOf W b) (envOf W b) W _ rfl hv hr with ⟨_,k⟩ | ⟨v,w',k,_⟩
  ·refine k.mono fun e W' he=>?_
   cases e with
   | returned v=>
    obtain ⟨ρ',_,k1,k2⟩:=he
    simp only [VR] at k2
    exact ⟨by rw [k2],old_of k1⟩
   | panicked ch=>exact he.elim
   | outgrown=>exact he.elim
  ·exfalso
   obtain ⟨⟨c,nt,rs⟩,hb⟩:=Option.isSome_iff_exists.1 body3
   obtain ⟨fn,_,_,_,_,hrun⟩:=hII.body 3 c nt rs hb
   rw [hrun] at k
   cases k
end Go.Sx
end
section
set_option maxRecDepth 100000
namespace Go.Proofs.YtleifmkjbmhlpaaGreatDoor.certifySmall
open Go.ChangeShapes Go.WideShapes Go.ChangeAt Go.RowKit
theorem kids:Kids Tryz.prog (· < Tryz.prog.types.size):=kids_rows (by kernel_rfl) (by kernel_rfl)
theorem full : ∀ {t e:TypeId},t<Tryz.prog.types.size→Tryz.prog.underlying t=some (.slice e)→0<Tryz.prog.cellsOf e:=fun {t e} h1 h2=>slices_full_of Tryz.prog (by kernel_rfl) t e h1 h2
theorem sizes:(decide (25<Tryz.prog.types.size))=true:=by kernel_rfl
end Go.Proofs.YtleifmkjbmhlpaaGreatDoor.certifySmall
end
section
set_option maxRecDepth 1000000
namespace Go.Proofs.YtleifmkjbmhlpaaGreatDoor.certifySmall
open Go.ChangeShapes Go.WideShapes Go.ChangeAt Go.RowKit
theorem own:ownKnob Tryz.prog.godebug=none:=by kernel_rfl
noncomputable def laidWorld (n:Nat) (os:Os): World :=
 {World.doorLaid Tryz.prog n os with heap:=(World.doorLaid Tryz.prog n os).heap.modify 8 fun
   | .cells _ t fr=> .cells (Pinned.utf8FirstZ.map fun (z:Nat)=>Value.int .u8 (Int.ofNat z)).toArray t fr
   | o=>o}
end Go.Proofs.YtleifmkjbmhlpaaGreatDoor.certifySmall
end
section
set_option maxRecDepth 1000000
namespace Go.Proofs.YtleifmkjbmhlpaaGreatDoor.certifyOpens
open Go.ChangeShapes Go.WideShapes Go.ChangeAt Go.RowKit
open Go.Proofs.YtleifmkjbmhlpaaGreatDoor.certifySmall (kids full sizes own laidWorld)
theorem contract (H:Type) (enc:TypeId×Value→H) (W:World) (base:Nat) (args:Array Value) (ds gs:List (DataW H)) (before:List MemPlace)
  (hval : ∀ (j:Nat) t v,Tryz.f3.params[j]? =some t→args[j]? =some v→Value.okWide Tryz.prog W .any base t v)
  (hW:DataW.Whole enc Tryz.prog Tryz.f3.params.toList Rows.certifyOpensSpec.vars false W args.toList ds gs before) (hL:laidMetH Tryz.prog Rows.certifyOpensRow.laid W):
  Calls Tryz.prog 3 args W fun e W'=> ∃ v,e= .returned v∧Rows.certifyOpensSpec.post enc Tryz.prog Tryz.f3 false true false false W args v W':=by
 have hW':=hW
 obtain ⟨p,q,hA,hV,_,_,_⟩:=hW'
 obtain ⟨rfl,_⟩:=trodVars_none hV
 have hA2:=hA
 rw [Tryz.params3] at hA2
 obtain ⟨v0,v1,d0,d1,p0,p1,_,hd,_,_,_⟩:=trodAll_two hA2
 subst hd
 refine (Sx.law_call3 hval hA hL).mono fun e W' ⟨he,hk⟩=>?_
 refine ⟨_,he,Sx.post_kept kids full (fun t ht=>?_) rfl hW hk (fun _ _ _=>?_) rfl rfl (ok_one (by kernel_rfl) rfl (okWide_bool_mk Tryz.underlying4 _))⟩
 ·rw [Tryz.params3] at ht
  have hs:=of_decide_eq_true sizes
  have:t=22∨t=25:=by simpa using ht
  rcases this with rfl | rfl
  ·exact Nat.lt_trans (by decide) hs
  ·exact hs
 ·exact trodAll_cons_mk (shut_bool Tryz.underlying4 _) trodAll_mk0
def wargs:Array Value := #[.slice none 0 0,.agg #[.int .i64 0,.slice none 0 0,.int .i64 0,.int .i64 0]]
theorem laid_met (os:Os): laidMetH Tryz.prog Rows.certifyOpensRow.laid ((laidWorld 8000 os).forCall (fun _ _=>0) ⟨#[],wargs,[]⟩).memory :=
 laidMetH_of_parts3 (fuel:=8) (laidMet_of_run' 8 (by kernel_rfl) (by kernel_rfl)) (by kernel_rfl) (by kernel_rfl)
end Go.Proofs.YtleifmkjbmhlpaaGreatDoor.certifyOpens
end
