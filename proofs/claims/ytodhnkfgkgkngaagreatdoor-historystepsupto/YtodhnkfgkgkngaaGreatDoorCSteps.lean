/- What a law's walk and its plain proof need, part 11: no condition of its own. -/
import Derived.Test.YtodhnkfgkgkngaaGreatDoorSI
import Derived.Test.YtodhnkfgkgkngaaGreatDoorSG
import Derived.Test.YtodhnkfgkgkngaaGreatDoorSH
import Derived.Test.YtodhnkfgkgkngaaGreatDoorSJ
import Derived.Lay
set_option linter.defProp false
set_option linter.unusedSimpArgs false
set_option linter.unusedVariables false
set_option linter.unusedSectionVars false
namespace Go.AM
def AQ9:=@Go.Claim7.holds_tied_plain_at
def AS3:=@Go.OpenSpec.preRow_of_cond
def AS5:=@Go.OpenClaim.holds_of_cond
def AS7:=@Go.OpenClaim.pre_eq_preRow
def AW4:=@Go.Proofs.Tryz.params6
open Go.RowKit Go.ChangeShapes Go.WideShapes Go.ChangeAt Go.Deep Go.Proofs Go.Proofs.YtodhnkfgkgkngaaGreatDoor
namespace HiSteps
set_option maxRecDepth 100000
theorem contract (H:Type)(enc:TypeId×Value->H)(W:World)(base:Nat)(args:Array Value)(ds gs:List (DataW H))(before:List MemPlace)
 (a:∀(j:Nat) t v,Tryz.f6.params[j]? = some t->args[j]? = some v->Value.okWide Tryz.prog W .any base t v)
 (r:DataW.Whole enc Tryz.prog Tryz.f6.params.toList Rows.historyStepsSpec.vars false W args.toList ds gs before) (hk:Rows.uptoSmall H (ds++gs)=true) (hL:laidMetH Tryz.prog Rows.historyStepsUptoRow.laid W) :
 Calls Tryz.prog 6 args W fun e W'=>∃v,e=.returned v/\Rows.historyStepsSpec.post enc Tryz.prog Tryz.f6 false true false false W args v W':=by
 have d:=r;obtain⟨p,q,f,w,rfl,x,y⟩:=r;have s:DataW.TrodAll enc Tryz.prog W 0 (fun _=>true) true Tryz.f6.params.toList args.toList ds p:=f;rw[AW4]at s a;obtain⟨v0,vs0,d0,ds0,p0,q0,l,rfl,rfl,z,r0⟩:=trodAll_cons s;obtain⟨v1,vs1,d1,ds1,p1,q1,rfl,rfl,rfl,h1,r1⟩:=trodAll_cons r0;obtain⟨rfl,rfl,rfl⟩:=trodAll_nil r1;obtain rfl:args = #[v0,v1]:=by cases args;simp_all
 obtain⟨rfl,rfl⟩:=trodVars_none w;have hb:=of_decide_eq_true hk;simp only[AK8,Rows.uptoBulkAll]at hb;obtain⟨cs0,b,_⟩:=okWide_struct AR8 (a 0 63 v0 rfl rfl);obtain⟨a1,len1,cap1,m⟩:=okWide_slice AM1 (a 1 27 v1 rfl rfl);obtain⟨fu0,g0⟩:=z;obtain⟨fu1,g1⟩:=h1;have u:WB Tryz.prog [63,60,5,23,57,9,54,3,51,49,4,52,27,55,114,61,130]=true:=by kernel_rfl
 have c:∀t∈([63,60,5,23,57,9,54,3,51,49,4,52,27,55,114,61,130]:List Nat),t<Tryz.prog.types.size:=by decide +kernel
 obtain⟨pv0,c0,sh0⟩:=Dt WC WD u c fu0 63 _ _ (by simp) g0;obtain⟨x0,l0,w0,s0⟩:=JV _ _ sh0;have s0:FL x0<=Rows.uptoBulk d0:=s0;have e0:=c0.leD l0;rw[b]at e0;have e0:=WE e0;rw[<- b]at e0;obtain⟨pv1,c1,sh1⟩:=Dt WC WD u c fu1 27 _ _ (by simp) g1;obtain⟨x1,l1,w1,s1⟩:=Ah AM1 (by kernel_rfl) Cc _ _ sh1;have s1:(Ic (fun i=>AB (x1.g i)) x1.n+1)<=Rows.uptoBulk d1:=s1;have e1:=RK (by rw[m];rfl) (c1.leD l1);have hP:FunO (FZ Tryz.prog) AC [.p (.agg (Y0 x0)),.p (vSl 2 A0 x1)] [] (.p (.bb true)) [] []:=
  GY (Aj5 _) libC (Jt (N:=4194304) (by omega) MF (MG w0 (by omega)) (Af5 w1))
 have hc:=GZ (args:=[.agg (Y0 x0),vSl 2 A0 x1]) (enters_of Tryz.func6 (by decide +kernel) rfl) hP (W:=W) (vs:=#[v0,v1]) (WF hL) rfl (fun i hi=>by
  match i,hi with
  |0,_=>exact e0
  |1,_=>exact e1
  )
 refine hc.mono fun e W' ⟨he,o⟩=>?_;subst he;exact⟨_,rfl,TI rfl (by kernel_rfl) AM8 (by kernel_rfl) (by rw[AW4];decide +kernel) d rfl o⟩
theorem own:ownKnob Tryz.prog.godebug=none:=by kernel_rfl
theorem reads (os:Os){H:Type}(enc:TypeId×Value->H):∃places,DataW.whole enc Tryz.prog ((World.laidAll Tryz.prog os Rows.historyStepsUptoRow.laid).forCall (fun _ _=>0) ⟨#[],#[.agg #[.slice none 0 0,.slice none 0 0,.slice none 0 0],.slice none 0 0],[]⟩).memory Tryz.f6.params.toList Rows.historyStepsSpec.vars false (#[.agg #[.slice none 0 0,.slice none 0 0,.slice none 0 0],.slice none 0 0]:Array Value).toList 16=some ([.agg [.nil,.nil,.nil],.nil],[],places):=
 ⟨[],by kernel_rfl⟩
theorem laid_met (os:Os):laidMet Tryz.prog Rows.historyStepsUptoRow.laid ((World.laidAll Tryz.prog os Rows.historyStepsUptoRow.laid).forCall (fun _ _=>0) ⟨#[],#[.agg #[.slice none 0 0,.slice none 0 0,.slice none 0 0],.slice none 0 0],[]⟩).memory:=
 laidMet_laidAll _ (by kernel_rfl) (by kernel_rfl)
theorem liftedUpto (os:Os)(started:os.Started)(H:Type)(enc:TypeId×Value->H)(F:Stop.Interp) :ReturnsInHanded {} Tryz.checked os 6 .any ((Rows.OpenSpec.upto Rows.historyStepsSpec).preRow enc Tryz.prog Tryz.f6 Rows.historyStepsUptoRow.domain false Rows.historyStepsUptoRow.laid) (((Rows.OpenSpec.upto Rows.historyStepsSpec).at F).post enc Tryz.prog Tryz.f6 false true false false):=by
 obtain⟨places,hx⟩:=reads os enc;refine returnsInHanded_of_row (C:=Tryz.checked) (s:=Rows.OpenSpec.upto Rows.historyStepsSpec) own started (by kernel_rfl) Tryz.func6
  (witness_row_at (enc:=enc) (C:=Tryz.checked) false (World.laidAll Tryz.prog os Rows.historyStepsUptoRow.laid) #[.agg #[.slice none 0 0,.slice none 0 0,.slice none 0 0],.slice none 0 0] (World.laidAll_os _ _ _) (by kernel_rfl) (by kernel_rfl) (by kernel_rfl)
   (AS3 16 hx (by kernel_rfl) (fun k hk=>by cases hk;kernel_rfl) (by kernel_rfl) (laid_met os))) ?_
 intro W base args ds gs before b c _ a _ hL _ _;exact contract H enc W base args ds gs before b c (a _ rfl) hL
theorem gA:jA_ Tryz.pinned.checked.prog 6 Tryz.f6 (Rows.OpenSpec.upto Rows.historyStepsSpec).bare Rows.historyStepsUptoRow=true:=by kernel_rfl
theorem gB:jB_ Tryz.pinned.checked.prog 6 Tryz.f6 (Rows.OpenSpec.upto Rows.historyStepsSpec).bare Rows.historyStepsUptoRow=true:=by kernel_rfl
theorem gC:jC_ Tryz.pinned.checked.prog 6 Tryz.f6 (Rows.OpenSpec.upto Rows.historyStepsSpec).bare Rows.historyStepsUptoRow=true:=by kernel_rfl
theorem gD:jD_ Tryz.pinned.checked.prog 6 Tryz.f6 (Rows.OpenSpec.upto Rows.historyStepsSpec).bare Rows.historyStepsUptoRow=true:=by kernel_rfl
theorem gE:jE_ Tryz.pinned.checked.prog 6 Tryz.f6 (Rows.OpenSpec.upto Rows.historyStepsSpec).bare Rows.historyStepsUptoRow=true:=by kernel_rfl
theorem gF:jF_ Tryz.pinned.checked.prog 6 Tryz.f6 (Rows.OpenSpec.upto Rows.historyStepsSpec).bare Rows.historyStepsUptoRow=true:=by kernel_rfl
theorem saidUpto:Rows.HistoryStepsUptoSaid:=
 AS5 6 Tryz.f6 rfl rfl rfl rfl rfl rfl rfl ⟨rfl,rfl,rfl,rfl,rfl⟩ rfl rfl rfl rfl rfl (by kernel_rfl) Tryz.func6 (PB gA gB gC gD gE gF)
  (of_decide_eq_true (by kernel_rfl)) (by unfold Func.isWrapper;first|(rw[if_pos (by decide +kernel)];kernel_rfl)|(rw[if_neg (by decide +kernel)];exact⟨rfl,rfl⟩))
  (fun os started H enc _ F=>by rw[AS7];exact liftedUpto os started H enc F)
theorem plain (f:FuncId)(fn:Func)(b:Tryz.pinned.checked.prog.funcNamed "ablaut/ablautlaw25.HistorySteps" = some f)(a:Tryz.pinned.checked.prog.funcs[f]? = some fn) :true=Tryz.pinned.checked.prog.looks []/\∀(j:Nat) t,fn.params[j]? = some t->Tryz.pinned.checked.prog.wantsStandIn t=false:=by
 obtain rfl:f=6:=AE1 ((show Tryz.prog.funcNamed "ablaut/ablautlaw25.HistorySteps" = some 6 by kernel_rfl).symm.trans b) |>.symm;obtain rfl:fn=Tryz.f6:=(AE1 (Tryz.func6.symm.trans a)).symm;refine⟨by kernel_rfl,fun j t ht=>?_⟩;rw[AW4]at ht;have hm:=AP6 ht;simp only[List.mem_toArray,AG0,List.not_mem_nil,or_false]at hm;rcases hm with rfl|rfl
 ·exact (show Tryz.prog.wantsStandIn 63=false by kernel_rfl)
 ·exact (show Tryz.prog.wantsStandIn 27=false by kernel_rfl)
theorem cardUpto:Rows.HistoryStepsUptoCardSaid:=
 AQ9 .later [] _ _ _ _ saidUpto (fun _ h=>by cases h) (by kernel_rfl) (fun _ h=>by cases h) historyStepsUpto_row_tie rfl ⟨rfl,rfl⟩ (by kernel_rfl) rfl plain (by kernel_rfl)
end HiSteps
end Go.AM
