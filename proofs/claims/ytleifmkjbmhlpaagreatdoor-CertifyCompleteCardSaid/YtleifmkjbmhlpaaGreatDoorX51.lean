/- The proof of a statement of the seat: its end. For every input. -/
import Derived.Test.YtleifmkjbmhlpaaGreatDoorX50
set_option linter.all false
set_option linter.defProp false
section
set_option maxRecDepth 1000000
namespace Go.Proofs.YtleifmkjbmhlpaaGreatDoor.certifyComplete
open Go.ChangeShapes Go.WideShapes Go.ChangeAt Go.RowKit
open Go.Proofs.YtleifmkjbmhlpaaGreatDoor.kC (own CE T3)
theorem reads(os){H}(enc:TypeId×Value->H):∃a,DataW.whole enc Tryz.prog ((CE 8000 os).forCall (λ_ _=>0) ⟨#[],T3,[]⟩).memory Tryz.f7.params.toList Rows.certifyCompleteSpec.vars false T3.toList 8=some ([.nil,.agg [.lit (.int .i64 0),.nil,.lit (.int .i64 0),.lit (.int .i64 0)]],[],a):=
 ⟨[],by kernel_rfl⟩
theorem lifted(os)(a:os.Started)(H)(enc:TypeId×Value->H)(F):
  ReturnsInHanded {} Tryz.checked os 7 .any ((OpenSpec.ofChange Rows.certifyCompleteSpec).preRow enc Tryz.prog Tryz.f7 Rows.certifyCompleteRow.domain false Rows.certifyCompleteRow.laid) (((OpenSpec.ofChange Rows.certifyCompleteSpec).at F).post enc Tryz.prog Tryz.f7 false true false false):=by
 obtain⟨d,hx⟩:=reads os enc;refine returnsInHanded_of_row (C:=Tryz.checked) (s:=OpenSpec.ofChange Rows.certifyCompleteSpec) own a (by kernel_rfl) Tryz.func7
  (witness_row_at (enc:=enc) (C:=Tryz.checked) false (CE 8000 os) T3 rfl (by kernel_rfl) (by kernel_rfl) (by kernel_rfl)
   (OpenSpec.preRow_of_cond 8 hx (by kernel_rfl) (λk e=>by cases e) (by kernel_rfl) (aad os))) ?_
 intro W b args ds gs before c f _ _ _ g _ _;exact aaW H enc W b args ds gs before c f g
theorem andT{a b}(h:a=true)(k:b=true):(a&&b)=true:=by rw[h,k];rfl
set_option maxHeartbeats 0 in
theorem closed:joinedFacts Tryz.pinned.checked.prog 7 Tryz.f7 (OpenSpec.ofChange Rows.certifyCompleteSpec).bare Rows.certifyCompleteRow=true:=by
 unfold joinedFacts
 repeat' (with_reducible refine andT ?_ ?_)
 all_goals as_aux_lemma=>kernel_rfl
theorem fnNamed:Tryz.pinned.checked.prog.funcNamed Rows.certifyCompleteRow.func=some 7:=by kernel_rfl
theorem wrap:Tryz.f7.isWrapper Tryz.pinned.checked.prog Rows.certifyCompleteRow.wrapper Rows.certifyCompleteRow.mainSum:=by unfold Func.isWrapper;first|(rw[if_pos (by decide+kernel)];kernel_rfl)|(rw[if_neg (by decide+kernel)];exact⟨rfl,rfl⟩)
theorem inst:Tryz.f7.isInstance Tryz.pinned.checked.prog Rows.certifyCompleteRow.origin Rows.certifyCompleteRow.targs:=(Sx.py (by kernel_rfl))
theorem said:Rows.CertifyCompleteSaid :=
 OpenClaim.holds_of_cond 7 Tryz.f7 rfl rfl rfl rfl rfl rfl rfl ⟨rfl,rfl,rfl,rfl,rfl⟩ rfl rfl rfl rfl rfl fnNamed Tryz.func7 closed inst wrap
  (λos a H enc _ F=>by rw[OpenClaim.pre_eq_preRow];exact lifted os a H enc F)
theorem looksNo:true=Tryz.pinned.checked.prog.looks []:=by kernel_rfl
theorem stand22:Tryz.prog.wantsStandIn 22=false:=by kernel_rfl
theorem stand25:Tryz.prog.wantsStandIn 25=false:=by kernel_rfl
theorem plain(f)(fn)(b:Tryz.pinned.checked.prog.funcNamed Rows.certifyCompleteRow.func=some f)(a:Tryz.pinned.checked.prog.funcs[f]? =some fn):
  true=Tryz.pinned.checked.prog.looks []/\∀(j:Nat) t,fn.params[j]? =some t->Tryz.pinned.checked.prog.wantsStandIn t=false:=by
 obtain rfl:f=7:=Option.some.inj (fnNamed.symm.trans b) |>.symm
 obtain rfl:fn=Tryz.f7:=(Option.some.inj (Tryz.func7.symm.trans a)).symm;refine⟨looksNo,λj t ht=>?_⟩;rw[Tryz.params7]at ht;have:t=22∨t=25:=by simpa using Array.mem_of_getElem? ht
 rcases this with rfl|rfl
 ·exact stand22
 ·exact stand25
theorem card:Rows.CertifyCompleteCardSaid :=
 Claim7.holds_tied_plain_at .later [] _ _ _ _ said (λ_ h=>by cases h) (by kernel_rfl) (λ_ h=>by cases h) certifyComplete_row_tie rfl ⟨rfl,rfl⟩ (by kernel_rfl) rfl plain (by kernel_rfl)
end Go.Proofs.YtleifmkjbmhlpaaGreatDoor.certifyComplete
end
