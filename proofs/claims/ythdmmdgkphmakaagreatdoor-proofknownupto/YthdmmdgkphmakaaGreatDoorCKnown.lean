/- Part 11. -/
import Derived.Test.YthdmmdgkphmakaaGreatDoorKI
import Derived.Test.YthdmmdgkphmakaaGreatDoorKH
import Derived.Test.YthdmmdgkphmakaaGreatDoorKJ
import Derived.Lay
set_option linter.defProp false
set_option linter.unusedSimpArgs false
set_option linter.unusedVariables false
set_option linter.unusedSectionVars false
namespace Go.AM
def AA1:=@Go.Proofs.Tryz.underlying4
def AG3:=@Go.Proofs.Tryz.params3
open Go.RowKit Go.ChangeShapes Go.WideShapes Go.ChangeAt Go.Deep Go.Proofs Go.Proofs.YthdmmdgkphmakaaGreatDoor
namespace PrKnown
set_option maxRecDepth 100000
def contract (H:Type)(enc:TypeId×Value->H)(W:World)(base:Nat)(args:Array Value)(ds gs:List (DataW H))(before:List MemPlace)
 (a:∀(j:Nat) t v,Tryz.f3.params[j]? = some t->args[j]? = some v->Value.okWide Tryz.prog W .any base t v)
 (f:DataW.Whole enc Tryz.prog Tryz.f3.params.toList Rows.proofKnownSpec.vars false W args.toList ds gs before) (hk:Rows.uptoSmall H (ds++gs)=true) (hL:laidMetH Tryz.prog Rows.proofKnownUptoRow.laid W) :
 Calls Tryz.prog 3 args W fun e W'=>∃v,e=.returned v/\Rows.proofKnownSpec.post enc Tryz.prog Tryz.f3 false true false false W args v W':=by
 have b:=f;obtain⟨p,q,c,l,rfl,m,n⟩:=f;have g:DataW.TrodAll enc Tryz.prog W 0 (fun _=>true) true Tryz.f3.params.toList args.toList ds p:=c;rw[AG3]at g a;obtain⟨o,rfl,rfl⟩:=trodAll_nil g;obtain rfl:args = #[]:=by cases args;simp_all
 obtain⟨rfl,rfl⟩:=trodVars_none l;have r:FunO (EO Tryz.prog) CA [] [] (.p (.bb true)) [] []:=
  LE (good _) libC (Vm)
 have hc:=PC (args:=[]) (enters_of Tryz.func3 (by decide +kernel) rfl) r (W:=W) (vs:=#[]) (Ai3 (by kernel_rfl) (by kernel_rfl) (by kernel_rfl) hL) rfl (fun i s=>Eu s (Ay8 _));refine hc.mono fun e W' ⟨u,d⟩=>?_;subst u;exact⟨_,rfl,XW rfl (by kernel_rfl) AA1 (by kernel_rfl) (by rw[AG3];decide +kernel) b rfl d⟩
def own:ownKnob Tryz.prog.godebug=none:=by kernel_rfl
def reads (os:Os){H:Type}(enc:TypeId×Value->H):∃places,DataW.whole enc Tryz.prog ((World.laidAll Tryz.prog os Rows.proofKnownUptoRow.laid).forCall (fun _ _=>0) ⟨#[],#[],[]⟩).memory Tryz.f3.params.toList Rows.proofKnownSpec.vars false (#[]:Array Value).toList 16=some ([],[],places):=
 ⟨[],by kernel_rfl⟩
def laid_met (os:Os):laidMet Tryz.prog Rows.proofKnownUptoRow.laid ((World.laidAll Tryz.prog os Rows.proofKnownUptoRow.laid).forCall (fun _ _=>0) ⟨#[],#[],[]⟩).memory:=
 laidMet_laidAll _ (by kernel_rfl) (by kernel_rfl)
def liftedUpto (os:Os)(started:os.Started)(H:Type)(enc:TypeId×Value->H)(F:Stop.Interp) :ReturnsInHanded {} Tryz.checked os 3 .any ((Rows.OpenSpec.upto Rows.proofKnownSpec).preRow enc Tryz.prog Tryz.f3 Rows.proofKnownUptoRow.domain false Rows.proofKnownUptoRow.laid) (((Rows.OpenSpec.upto Rows.proofKnownSpec).at F).post enc Tryz.prog Tryz.f3 false true false false):=by
 obtain⟨places,hx⟩:=reads os enc;refine returnsInHanded_of_row (C:=Tryz.checked) (s:=Rows.OpenSpec.upto Rows.proofKnownSpec) own started (by kernel_rfl) Tryz.func3
  (witness_row_at (enc:=enc) (C:=Tryz.checked) false (World.laidAll Tryz.prog os Rows.proofKnownUptoRow.laid) #[] (World.laidAll_os _ _ _) (by kernel_rfl) (by kernel_rfl) (by kernel_rfl)
   (OpenSpec.preRow_of_cond 16 hx (by kernel_rfl) (fun k hk=>by cases hk;kernel_rfl) (by kernel_rfl) (laid_met os))) ?_
 intro W base args ds gs before b c _ a _ hL _ _;exact contract H enc W base args ds gs before b c (a _ rfl) hL
def gA:jA_ Tryz.pinned.checked.prog 3 Tryz.f3 (Rows.OpenSpec.upto Rows.proofKnownSpec).bare Rows.proofKnownUptoRow=true:=by kernel_rfl
def gB:jB_ Tryz.pinned.checked.prog 3 Tryz.f3 (Rows.OpenSpec.upto Rows.proofKnownSpec).bare Rows.proofKnownUptoRow=true:=by kernel_rfl
def gC:jC_ Tryz.pinned.checked.prog 3 Tryz.f3 (Rows.OpenSpec.upto Rows.proofKnownSpec).bare Rows.proofKnownUptoRow=true:=by kernel_rfl
def gD:jD_ Tryz.pinned.checked.prog 3 Tryz.f3 (Rows.OpenSpec.upto Rows.proofKnownSpec).bare Rows.proofKnownUptoRow=true:=by kernel_rfl
def gE:jE_ Tryz.pinned.checked.prog 3 Tryz.f3 (Rows.OpenSpec.upto Rows.proofKnownSpec).bare Rows.proofKnownUptoRow=true:=by kernel_rfl
def gF:jF_ Tryz.pinned.checked.prog 3 Tryz.f3 (Rows.OpenSpec.upto Rows.proofKnownSpec).bare Rows.proofKnownUptoRow=true:=by kernel_rfl
def saidUpto:Rows.ProofKnownUptoSaid:=
 OpenClaim.holds_of_cond 3 Tryz.f3 rfl rfl rfl rfl rfl rfl rfl ⟨rfl,rfl,rfl,rfl,rfl⟩ rfl rfl rfl rfl rfl (by kernel_rfl) Tryz.func3 (Wo gA gB gC gD gE gF)
  (of_decide_eq_true (by kernel_rfl)) (by unfold Func.isWrapper;first|(rw[Dz (by decide +kernel)];kernel_rfl)|(rw[Ec (by decide +kernel)];exact⟨rfl,rfl⟩))
  (fun os started H enc _ F=>by rw[OpenClaim.pre_eq_preRow];exact liftedUpto os started H enc F)
def plain (f:FuncId)(fn:Func)(c:Tryz.pinned.checked.prog.funcNamed "ablaut/ablautlaw45.ProofKnown" = some f)(a:Tryz.pinned.checked.prog.funcs[f]? = some fn) :true=Tryz.pinned.checked.prog.looks []/\∀(j:Nat) t,fn.params[j]? = some t->Tryz.pinned.checked.prog.wantsStandIn t=false:=by obtain rfl:f=3:=Aw9 ((show Tryz.prog.funcNamed "ablaut/ablautlaw45.ProofKnown" = some 3 by kernel_rfl).symm.trans c) |>.symm;obtain rfl:fn=Tryz.f3:=(Aw9 (Tryz.func3.symm.trans a)).symm;refine⟨by kernel_rfl,fun j t b=>?_⟩;rw[AG3]at b;have hm:=AE6 b;simp only[List.mem_toArray,Au2,List.not_mem_nil,or_false]at hm
def cardUpto:Rows.ProofKnownUptoCardSaid:=
 Claim7.holds_tied_plain_at .later [] _ _ _ _ saidUpto (fun _ h=>by cases h) (by kernel_rfl) (fun _ h=>by cases h) proofKnownUpto_row_tie rfl ⟨rfl,rfl⟩ (by kernel_rfl) rfl plain (by kernel_rfl)
end PrKnown
end Go.AM
