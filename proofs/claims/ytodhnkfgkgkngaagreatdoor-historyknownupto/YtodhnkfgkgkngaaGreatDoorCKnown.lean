/- Part 9. -/
import Derived.Test.YtodhnkfgkgkngaaGreatDoorKG
import Derived.Test.YtodhnkfgkgkngaaGreatDoorKF
import Derived.Test.YtodhnkfgkgkngaaGreatDoorKH
import Derived.Lay
set_option linter.defProp false
set_option linter.unusedSimpArgs false
set_option linter.unusedVariables false
set_option linter.unusedSectionVars false
namespace Go.AM
def XP:=@Go.Proofs.Tryz.underlying4
def YA:=@Go.Proofs.Tryz.params9
open Go.RowKit Go.ChangeShapes Go.WideShapes Go.ChangeAt Go.Deep Go.Proofs Go.Proofs.YtodhnkfgkgkngaaGreatDoor
namespace HiKnown
set_option maxRecDepth 100000
def contract (H:Type)(enc:TypeId×Value->H)(W:World)(base:Nat)(args:Array Value)(ds gs:List (DataW H))(before:List MemPlace)
 (a:∀(j:Nat) t v,Tryz.f9.params[j]? = some t->args[j]? = some v->Value.okWide Tryz.prog W .any base t v)
 (f:DataW.Whole enc Tryz.prog Tryz.f9.params.toList Rows.historyKnownSpec.vars false W args.toList ds gs before) (hk:Rows.uptoSmall H (ds++gs)=true) (hL:laidMetH Tryz.prog Rows.historyKnownUptoRow.laid W) :
 Calls Tryz.prog 9 args W fun e W'=>∃v,e=.returned v/\Rows.historyKnownSpec.post enc Tryz.prog Tryz.f9 false true false false W args v W':=by
 have b:=f;obtain⟨p,q,c,l,rfl,m,n⟩:=f;have g:DataW.TrodAll enc Tryz.prog W 0 (fun _=>true) true Tryz.f9.params.toList args.toList ds p:=c;rw[YA]at g a;obtain⟨o,rfl,rfl⟩:=trodAll_nil g;obtain rfl:args = #[]:=by cases args;simp_all
 obtain⟨rfl,rfl⟩:=trodVars_none l;have r:FunO (DO Tryz.prog) V6 [] [] (.p (.bb true)) [] []:=
  EZ (good _) libC (MJ)
 have hc:=Ka (args:=[]) (enters_of Tryz.func9 (by decide +kernel) rfl) r (W:=W) (vs:=#[]) (Th hL) rfl (fun i s=>Ba s (XV _));refine hc.mono fun e W' ⟨u,d⟩=>?_;subst u;exact⟨_,rfl,Rh rfl (by kernel_rfl) XP (by kernel_rfl) (by rw[YA];decide +kernel) b rfl d⟩
def own:ownKnob Tryz.prog.godebug=none:=by kernel_rfl
def reads (os:Os){H:Type}(enc:TypeId×Value->H):∃places,DataW.whole enc Tryz.prog ((World.laidAll Tryz.prog os Rows.historyKnownUptoRow.laid).forCall (fun _ _=>0) ⟨#[],#[],[]⟩).memory Tryz.f9.params.toList Rows.historyKnownSpec.vars false (#[]:Array Value).toList 16=some ([],[],places):=
 ⟨[],by kernel_rfl⟩
def laid_met (os:Os):laidMet Tryz.prog Rows.historyKnownUptoRow.laid ((World.laidAll Tryz.prog os Rows.historyKnownUptoRow.laid).forCall (fun _ _=>0) ⟨#[],#[],[]⟩).memory:=
 laidMet_laidAll _ (by kernel_rfl) (by kernel_rfl)
def liftedUpto (os:Os)(started:os.Started)(H:Type)(enc:TypeId×Value->H)(F:Stop.Interp) :ReturnsInHanded {} Tryz.checked os 9 .any ((Rows.OpenSpec.upto Rows.historyKnownSpec).preRow enc Tryz.prog Tryz.f9 Rows.historyKnownUptoRow.domain false Rows.historyKnownUptoRow.laid) (((Rows.OpenSpec.upto Rows.historyKnownSpec).at F).post enc Tryz.prog Tryz.f9 false true false false):=by
 obtain⟨places,hx⟩:=reads os enc;refine returnsInHanded_of_row (C:=Tryz.checked) (s:=Rows.OpenSpec.upto Rows.historyKnownSpec) own started (by kernel_rfl) Tryz.func9
  (witness_row_at (enc:=enc) (C:=Tryz.checked) false (World.laidAll Tryz.prog os Rows.historyKnownUptoRow.laid) #[] (World.laidAll_os _ _ _) (by kernel_rfl) (by kernel_rfl) (by kernel_rfl)
   (OpenSpec.preRow_of_cond 16 hx (by kernel_rfl) (fun k hk=>by cases hk;kernel_rfl) (by kernel_rfl) (laid_met os))) ?_
 intro W base args ds gs before b c _ a _ hL _ _;exact contract H enc W base args ds gs before b c (a _ rfl) hL
def gA:jA_ Tryz.pinned.checked.prog 9 Tryz.f9 (Rows.OpenSpec.upto Rows.historyKnownSpec).bare Rows.historyKnownUptoRow=true:=by kernel_rfl
def gB:jB_ Tryz.pinned.checked.prog 9 Tryz.f9 (Rows.OpenSpec.upto Rows.historyKnownSpec).bare Rows.historyKnownUptoRow=true:=by kernel_rfl
def gC:jC_ Tryz.pinned.checked.prog 9 Tryz.f9 (Rows.OpenSpec.upto Rows.historyKnownSpec).bare Rows.historyKnownUptoRow=true:=by kernel_rfl
def gD:jD_ Tryz.pinned.checked.prog 9 Tryz.f9 (Rows.OpenSpec.upto Rows.historyKnownSpec).bare Rows.historyKnownUptoRow=true:=by kernel_rfl
def gE:jE_ Tryz.pinned.checked.prog 9 Tryz.f9 (Rows.OpenSpec.upto Rows.historyKnownSpec).bare Rows.historyKnownUptoRow=true:=by kernel_rfl
def gF:jF_ Tryz.pinned.checked.prog 9 Tryz.f9 (Rows.OpenSpec.upto Rows.historyKnownSpec).bare Rows.historyKnownUptoRow=true:=by kernel_rfl
def saidUpto:Rows.HistoryKnownUptoSaid:=
 OpenClaim.holds_of_cond 9 Tryz.f9 rfl rfl rfl rfl rfl rfl rfl ⟨rfl,rfl,rfl,rfl,rfl⟩ rfl rfl rfl rfl rfl (by kernel_rfl) Tryz.func9 (PM gA gB gC gD gE gF)
  (of_decide_eq_true (by kernel_rfl)) (by unfold Func.isWrapper;first|(rw[Au (by decide +kernel)];kernel_rfl)|(rw[Ay (by decide +kernel)];exact⟨rfl,rfl⟩))
  (fun os started H enc _ F=>by rw[OpenClaim.pre_eq_preRow];exact liftedUpto os started H enc F)
def plain (f:FuncId)(fn:Func)(c:Tryz.pinned.checked.prog.funcNamed "ablaut/ablautlaw25.HistoryKnown" = some f)(a:Tryz.pinned.checked.prog.funcs[f]? = some fn) :true=Tryz.pinned.checked.prog.looks []/\∀(j:Nat) t,fn.params[j]? = some t->Tryz.pinned.checked.prog.wantsStandIn t=false:=by obtain rfl:f=9:=Ww ((show Tryz.prog.funcNamed "ablaut/ablautlaw25.HistoryKnown" = some 9 by kernel_rfl).symm.trans c) |>.symm;obtain rfl:fn=Tryz.f9:=(Ww (Tryz.func9.symm.trans a)).symm;refine⟨by kernel_rfl,fun j t b=>?_⟩;rw[YA]at b;have hm:=Yn b;simp only[List.mem_toArray,WH,List.not_mem_nil,or_false]at hm
def cardUpto:Rows.HistoryKnownUptoCardSaid:=
 Claim7.holds_tied_plain_at .later [] _ _ _ _ saidUpto (fun _ h=>by cases h) (by kernel_rfl) (fun _ h=>by cases h) historyKnownUpto_row_tie rfl ⟨rfl,rfl⟩ (by kernel_rfl) rfl plain (by kernel_rfl)
end HiKnown
end Go.AM
