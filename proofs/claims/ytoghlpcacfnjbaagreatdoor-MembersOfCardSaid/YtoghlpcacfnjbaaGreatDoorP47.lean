import Derived.Test.YtoghlpcacfnjbaaGreatDoorP46
set_option linter.all false
set_option maxRecDepth 100000
set_option maxHeartbeats 4000000
section
namespace Go.Proofs.YtoghlpcacfnjbaaGreatDoor.fnMembersOf
open Go.ChangeShapes Go.WideShapes Go.ChangeAt Go.RowKit Go.Ev.Wit
def zero0:Value:=.agg #[.int .u8 0,.int .u8 0,.int .u8 0,.int .u8 0,.bool false,.int .u16 0,.int .u8 0,.int .u8 0,.int .u8 0,.int .u8 0,.int .u8 0,.int .u8 0,.int .u8 0,.int .i16 0,.int .u8 0,.slice none 0 0]
def zero1:Value:=.int .i64 0
abbrev args0:Array Value:=#[zero0,zero1]
noncomputable abbrev W0(os:Os):World:=(laidWorld os).forCall (λ_ _=>0) ⟨#[],args0,[]⟩
theorem laid_met(os:Os):laidMet Tryz.prog Rows.membersOfRow.laid (W0 os).memory:=laidMet_of_run' 8 (by kernel_rfl) (by kernel_rfl)
theorem reads(os:Os){H:Type}(enc:TypeId×Value->H):∃x,DataW.whole enc Tryz.prog (W0 os).memory Tryz.f4.params.toList Rows.membersOfSpec.vars false args0.toList 8=some x:=Option.isSome_iff_exists.1 (by kernel_rfl)
def shaped(os:Os):(W0 os).variablesRefB Tryz.checked.prog=true:=by kernel_rfl
def restB(os:Os):((W0 os).heap.toList.drop Tryz.checked.prog.globals.size).take ((begin Tryz.checked.prog (λ_ _=>0) default).world.heap.size - Tryz.checked.prog.globals.size)=(begin Tryz.checked.prog (λ_ _=>0) default).world.heap.toList.drop Tryz.checked.prog.globals.size:=by kernel_rfl
def argsB(os:Os):Input.okWideB Tryz.checked.prog (W0 os) 4 ⟨#[],args0,[]⟩=true:=by kernel_rfl
end Go.Proofs.YtoghlpcacfnjbaaGreatDoor.fnMembersOf
end
section
namespace Go.Proofs.YtoghlpcacfnjbaaGreatDoor.fnMembersOf
open Go.ChangeShapes Go.WideShapes Go.ChangeAt Go.RowKit
def own:ownKnob Tryz.prog.godebug=none:=by kernel_rfl
theorem lifted(os:Os)(started:os.Started)(H:Type)(enc:TypeId×Value->H)(F:Stop.Interp) :
 ReturnsInHanded {} Tryz.checked os 4 .any ((OpenSpec.ofChange Rows.membersOfSpec).preRow enc Tryz.prog Tryz.f4 Rows.membersOfRow.domain false Rows.membersOfRow.laid) (((OpenSpec.ofChange Rows.membersOfSpec).at F).post enc Tryz.prog Tryz.f4 false true false false):=by
 obtain⟨x,hx⟩:=reads os enc;refine returnsInHanded_of_row (C:=Tryz.checked) (s:=OpenSpec.ofChange Rows.membersOfSpec) own started (by kernel_rfl) Tryz.func4
  (witness_row_atRef (enc:=enc) (C:=Tryz.checked) false (Go.Ev.Wit.laidWorld os) args0 rfl (shaped os) (restB os) (argsB os)
    (OpenSpec.preRow_of_cond 8 hx (by kernel_rfl) (λk hk=>by cases hk) (by kernel_rfl) (laid_met os))) ?_
 intro W base args ds gs before hval hW _ _ _ hL _ _;exact contract H enc W args ds gs before .any base hval hW hL
theorem said:Rows.MembersOfSaid:=
 OpenClaim.holds_of_cond 4 Tryz.f4 rfl rfl rfl rfl rfl rfl rfl ⟨rfl,rfl,rfl,rfl,rfl⟩ rfl rfl rfl rfl rfl (by kernel_rfl) Tryz.func4 facts
  (of_decide_eq_true (by kernel_rfl)) (by unfold Func.isWrapper;first|(rw[if_pos (by decide +kernel)];kernel_rfl)|(rw[if_neg (by decide +kernel)];exact⟨rfl,rfl⟩))
  (λos started H enc _ F=>by rw[OpenClaim.pre_eq_preRow];exact lifted os started H enc F)
def standB:Tryz.f4.params.all (λt=>!Tryz.prog.wantsStandIn t)=true:=by kernel_rfl
theorem plain(f:FuncId)(fn:Func)(hf:Tryz.pinned.checked.prog.funcNamed "circa/circalaw26.MembersOf" = some f)(hfn:Tryz.pinned.checked.prog.funcs[f]? = some fn) :
 true=Tryz.pinned.checked.prog.looks []/\∀(j:Nat) t,fn.params[j]? = some t->Tryz.pinned.checked.prog.wantsStandIn t=false:=by
 obtain rfl:f=4:=Option.some.inj ((show Tryz.prog.funcNamed "circa/circalaw26.MembersOf" = some 4 by kernel_rfl).symm.trans hf) |>.symm
 obtain rfl:fn=Tryz.f4:=(Option.some.inj (Tryz.func4.symm.trans hfn)).symm;refine⟨by kernel_rfl,λj t ht=>?_⟩;obtain⟨hj,e⟩:=Array.getElem?_eq_some_iff.1 ht;have:=(Array.all_eq_true.1 standB) j hj;rw[e]at this;have this:Tryz.prog.wantsStandIn t=false:=by simpa using this
 exact this
theorem card:Rows.MembersOfCardSaid:=
 Claim7.holds_tied_plain_at .later [] _ _ _ _ said (λ_ h=>by cases h) (by kernel_rfl) (λ_ h=>by cases h) membersOf_row_tie rfl ⟨rfl,rfl⟩ (by kernel_rfl) rfl plain (by kernel_rfl)
#print axioms card
end Go.Proofs.YtoghlpcacfnjbaaGreatDoor.fnMembersOf
end
