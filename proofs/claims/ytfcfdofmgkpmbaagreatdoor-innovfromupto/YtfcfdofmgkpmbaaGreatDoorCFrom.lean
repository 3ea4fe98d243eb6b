/- What a law's walk and its plain proof need, part 10: no condition of its own. -/
import Derived.Test.YtfcfdofmgkpmbaaGreatDoorLH
import Derived.Test.YtfcfdofmgkpmbaaGreatDoorLG
import Derived.Test.YtfcfdofmgkpmbaaGreatDoorLF
import Derived.Test.YtfcfdofmgkpmbaaGreatDoorLI
import Derived.Lay
set_option linter.unusedSimpArgs false
set_option linter.unusedVariables false
set_option linter.unusedSectionVars false
namespace Go.AM
open Go.RowKit Go.ChangeShapes Go.WideShapes Go.ChangeAt Go.Deep Go.Proofs Go.Proofs.YtfcfdofmgkpmbaaGreatDoor
namespace InFrom
set_option maxRecDepth 100000
theorem contract (H:Type)(enc:TypeId×Value->H)(W:World)(base:Nat)(args:Array Value)(ds gs:List (DataW H))(before:List MemPlace)
 (hval:∀(j:Nat) t v,Tryz.f5.params[j]? = some t->args[j]? = some v->Value.okWide Tryz.prog W .any base t v)
 (hW:DataW.Whole enc Tryz.prog Tryz.f5.params.toList Rows.innovFromSpec.vars false W args.toList ds gs before) (hk:Rows.uptoSmall H (ds++gs)=true) (hL:laidMetH Tryz.prog Rows.innovFromUptoRow.laid W) :
 Calls Tryz.prog 5 args W fun e W'=>∃v,e=.returned v/\Rows.innovFromSpec.post enc Tryz.prog Tryz.f5 false true false false W args v W':=by
 have hW':=hW;obtain⟨p,q,hA0,hV,rfl,hfz,hnd⟩:=hW;have hA:DataW.TrodAll enc Tryz.prog W 0 (fun _=>true) true Tryz.f5.params.toList args.toList ds p:=hA0;rw[Tryz.params5]at hA hval;obtain⟨v0,vs0,d0,ds0,p0,q0,hargs,rfl,rfl,h0,r0⟩:=trodAll_cons hA;obtain⟨rfl,rfl,rfl⟩:=trodAll_nil r0;obtain rfl:args = #[v0]:=by cases args;simp_all
 obtain⟨rfl,rfl⟩:=trodVars_none hV;have hb:=of_decide_eq_true hk;simp only[List.append_nil,Rows.uptoBulkAll]at hb;obtain⟨cs0,hv0,_⟩:=okWide_struct Tryz.underlying54 (hval 0 54 v0 rfl rfl);obtain⟨fu0,g0⟩:=h0;have hT:Yu Tryz.prog [54,50,95,3,9,51,124,121,87,85,4,119,76,122,155,52,29]=true:=by kernel_rfl
 have hTl:∀t∈([54,50,95,3,9,51,124,121,87,85,4,119,76,122,155,52,29]:List Nat),t<Tryz.prog.types.size:=by decide +kernel
 obtain⟨pv0,c0,sh0⟩:=Tk kids1 bulkU hT hTl fu0 54 _ _ (by simp) g0;obtain⟨x0,l0,w0,s0⟩:=ML _ _ sh0;have s0:Dc x0<=Rows.uptoBulk d0:=s0;have e0:=c0.leD l0;rw[hv0]at e0;have e0:=YX e0;rw[<- hv0]at e0;have hP:FunO (Ft Tryz.prog) BV [.p (.agg (A7 x0))] [] (.p (.bb true)) [] []:=
  Ja (Ac1 _) libC (MM (N:=4194304) (by omega) Tl (UW w0 (by omega)))
 have hc:=MN (args:=[.agg (A7 x0)]) (enters_of Ev (by decide +kernel) rfl) hP (W:=W) (vs:=#[v0]) (YY hL) rfl (fun i hi=>by
  match i,hi with
  |0,_=>exact e0
  )
 refine hc.mono fun e W' ⟨he,hkp⟩=>?_;subst he;exact⟨_,rfl,WQ rfl (by kernel_rfl) Tryz.underlying4 (by kernel_rfl) (by rw[Tryz.params5];decide +kernel) hW' rfl hkp⟩
theorem own:ownKnob Tryz.prog.godebug=none:=by kernel_rfl
theorem reads (os:Os){H:Type}(enc:TypeId×Value->H):∃places,DataW.whole enc Tryz.prog ((World.laidAll Tryz.prog os Rows.innovFromUptoRow.laid).forCall (fun _ _=>0) ⟨#[],#[.agg #[.slice none 0 0,.slice none 0 0,.slice none 0 0]],[]⟩).memory Tryz.f5.params.toList Rows.innovFromSpec.vars false (#[.agg #[.slice none 0 0,.slice none 0 0,.slice none 0 0]]:Array Value).toList 16=some ([.agg [.nil,.nil,.nil]],[],places):=
 ⟨[],by kernel_rfl⟩
theorem laid_met (os:Os):laidMet Tryz.prog Rows.innovFromUptoRow.laid ((World.laidAll Tryz.prog os Rows.innovFromUptoRow.laid).forCall (fun _ _=>0) ⟨#[],#[.agg #[.slice none 0 0,.slice none 0 0,.slice none 0 0]],[]⟩).memory:=
 laidMet_laidAll _ (by kernel_rfl) (by kernel_rfl)
theorem liftedUpto (os:Os)(started:os.Started)(H:Type)(enc:TypeId×Value->H)(F:Stop.Interp) :ReturnsInHanded {} Tryz.checked os 5 .any ((Rows.OpenSpec.upto Rows.innovFromSpec).preRow enc Tryz.prog Tryz.f5 Rows.innovFromUptoRow.domain false Rows.innovFromUptoRow.laid) (((Rows.OpenSpec.upto Rows.innovFromSpec).at F).post enc Tryz.prog Tryz.f5 false true false false):=by
 obtain⟨places,hx⟩:=reads os enc;refine returnsInHanded_of_row (C:=Tryz.checked) (s:=Rows.OpenSpec.upto Rows.innovFromSpec) own started (by kernel_rfl) Tryz.func5
  (witness_row_at (enc:=enc) (C:=Tryz.checked) false (World.laidAll Tryz.prog os Rows.innovFromUptoRow.laid) #[.agg #[.slice none 0 0,.slice none 0 0,.slice none 0 0]] (World.laidAll_os _ _ _) (by kernel_rfl) (by kernel_rfl) (by kernel_rfl)
   (OpenSpec.preRow_of_cond 16 hx (by kernel_rfl) (fun k hk=>by cases hk;kernel_rfl) (by kernel_rfl) (laid_met os))) ?_
 intro W base args ds gs before hval hW _ hcond _ hL _ _;exact contract H enc W base args ds gs before hval hW (hcond _ rfl) hL
theorem saidUpto:Rows.InnovFromUptoSaid:=
 OpenClaim.holds_of_cond 5 Tryz.f5 rfl rfl rfl rfl rfl rfl rfl ⟨rfl,rfl,rfl,rfl,rfl⟩ rfl rfl rfl rfl rfl (by kernel_rfl) Tryz.func5 (by kernel_rfl)
  (of_decide_eq_true (by kernel_rfl)) (by unfold Func.isWrapper;first|(rw[if_pos (by decide +kernel)];kernel_rfl)|(rw[if_neg (by decide +kernel)];exact⟨rfl,rfl⟩))
  (fun os started H enc _ F=>by rw[OpenClaim.pre_eq_preRow];exact liftedUpto os started H enc F)
theorem plain (f:FuncId)(fn:Func)(hf:Tryz.pinned.checked.prog.funcNamed "ablaut/ablautlaw31.InnovFrom" = some f)(hfn:Tryz.pinned.checked.prog.funcs[f]? = some fn) :true=Tryz.pinned.checked.prog.looks []/\∀(j:Nat) t,fn.params[j]? = some t->Tryz.pinned.checked.prog.wantsStandIn t=false:=by
 obtain rfl:f=5:=Option.some.inj ((show Tryz.prog.funcNamed "ablaut/ablautlaw31.InnovFrom" = some 5 by kernel_rfl).symm.trans hf) |>.symm;obtain rfl:fn=Tryz.f5:=(Option.some.inj (Tryz.func5.symm.trans hfn)).symm;refine⟨by kernel_rfl,fun j t ht=>?_⟩;rw[Tryz.params5]at ht;have hm:=Array.mem_of_getElem? ht;simp only[List.mem_toArray,List.mem_cons,List.not_mem_nil,or_false]at hm;rcases hm with rfl
 ·exact (show Tryz.prog.wantsStandIn 54=false by kernel_rfl)
theorem cardUpto:Rows.InnovFromUptoCardSaid:=
 Claim7.holds_tied_plain_at .later [] _ _ _ _ saidUpto (fun _ h=>by cases h) (by kernel_rfl) (fun _ h=>by cases h) innovFromUpto_row_tie rfl ⟨rfl,rfl⟩ (by kernel_rfl) rfl plain (by kernel_rfl)
end InFrom
end Go.AM
