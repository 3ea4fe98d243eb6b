/- What a law's walk and its plain proof need, part 11: no condition of its own. -/
import Derived.Test.YtfcfdofmgkpmbaaGreatDoorJH
import Derived.Test.YtfcfdofmgkpmbaaGreatDoorJG
import Derived.Test.YtfcfdofmgkpmbaaGreatDoorJF
import Derived.Test.YtfcfdofmgkpmbaaGreatDoorJI
import Derived.Lay
set_option linter.unusedSimpArgs false
set_option linter.unusedVariables false
set_option linter.unusedSectionVars false
namespace Go.AM
open Go.RowKit Go.ChangeShapes Go.WideShapes Go.ChangeAt Go.Deep Go.Proofs Go.Proofs.YtfcfdofmgkpmbaaGreatDoor
namespace InOnly
set_option maxRecDepth 100000
theorem contract (H:Type)(enc:TypeId×Value->H)(W:World)(base:Nat)(args:Array Value)(ds gs:List (DataW H))(before:List MemPlace)
 (hval:∀(j:Nat) t v,Tryz.f4.params[j]? = some t->args[j]? = some v->Value.okWide Tryz.prog W .any base t v)
 (hW:DataW.Whole enc Tryz.prog Tryz.f4.params.toList Rows.innovOnlySpec.vars false W args.toList ds gs before) (hk:Rows.uptoSmall H (ds++gs)=true) (hL:laidMetH Tryz.prog Rows.innovOnlyUptoRow.laid W) :
 Calls Tryz.prog 4 args W fun e W'=>∃v,e=.returned v/\Rows.innovOnlySpec.post enc Tryz.prog Tryz.f4 false true false false W args v W':=by
 have hW':=hW;obtain⟨p,q,hA0,hV,rfl,hfz,hnd⟩:=hW;have hA:DataW.TrodAll enc Tryz.prog W 0 (fun _=>true) true Tryz.f4.params.toList args.toList ds p:=hA0;rw[Tryz.params4]at hA hval;obtain⟨v0,vs0,d0,ds0,p0,q0,hargs,rfl,rfl,h0,r0⟩:=trodAll_cons hA;obtain⟨v1,vs1,d1,ds1,p1,q1,rfl,rfl,rfl,h1,r1⟩:=trodAll_cons r0;obtain⟨rfl,rfl,rfl⟩:=trodAll_nil r1;obtain rfl:args = #[v0,v1]:=by cases args;simp_all
 obtain⟨rfl,rfl⟩:=trodVars_none hV;have hb:=of_decide_eq_true hk;simp only[List.append_nil,Rows.uptoBulkAll]at hb;obtain⟨cs0,hv0,_⟩:=okWide_struct Tryz.underlying24 (hval 0 24 v0 rfl rfl);obtain⟨_,hv1⟩:=okWide_int Tryz.underlying44 (hval 1 44 v1 rfl rfl);obtain⟨fu0,g0⟩:=h0;obtain⟨fu1,g1⟩:=h1;have hT:OR Tryz.prog [24,3,22,44]=true:=by kernel_rfl
 have hTl:∀t∈([24,3,22,44]:List Nat),t<Tryz.prog.types.size:=by decide +kernel
 obtain⟨pv0,c0,sh0⟩:=U4 Ni Nj hT hTl fu0 24 _ _ (by simp) g0;obtain⟨x0,l0,w0,s0⟩:=Dd _ _ sh0;have s0:AL x0<=Rows.uptoBulk d0:=s0;have e0:=c0.leD l0;rw[hv0]at e0;have e0:=UC e0;rw[<- hv0]at e0;obtain⟨pv1,c1,sh1⟩:=U4 Ni Nj hT hTl fu1 44 _ _ (by simp) g1;obtain⟨x1,l1,w1,s1⟩:=Af Tryz.underlying44 _ _ sh1;have s1:1<=Rows.uptoBulk d1:=s1;have e1:=Gp (by rw[hv1];rfl) (c1.leD l1);obtain⟨s1,hs1⟩:=Mq w1;have hP:FunO (EH Tryz.prog) BO [.p (.agg (A8 x0)),.p (pI .u64 x1)] [] (.p (.bb true)) [] []:=
  JJ (ZB _) Af1 (by rw[hs1];exact Nl (N:=4194304) (by omega) FB (XK w0) s1)
 have hc:=BA (args:=[.agg (A8 x0),pI .u64 x1]) (enters_of EI (by decide +kernel) rfl) hP (W:=W) (vs:=#[v0,v1]) (Nk hL) rfl (fun i hi=>by
  match i,hi with
  |0,_=>exact e0
  |1,_=>exact e1
  )
 refine hc.mono fun e W' ⟨he,hkp⟩=>?_;subst he;exact⟨_,rfl,Jy rfl (by kernel_rfl) Tryz.underlying4 (by kernel_rfl) (by rw[Tryz.params4];decide +kernel) hW' rfl hkp⟩
theorem own:ownKnob Tryz.prog.godebug=none:=by kernel_rfl
theorem reads (os:Os){H:Type}(enc:TypeId×Value->H):∃places,DataW.whole enc Tryz.prog ((World.laidAll Tryz.prog os Rows.innovOnlyUptoRow.laid).forCall (fun _ _=>0) ⟨#[],#[.agg #[.int .i64 0,.slice none 0 0],.int .u64 0],[]⟩).memory Tryz.f4.params.toList Rows.innovOnlySpec.vars false (#[.agg #[.int .i64 0,.slice none 0 0],.int .u64 0]:Array Value).toList 16=some ([.agg [.lit (.int .i64 0),.nil],.lit (.int .u64 0)],[],places):=
 ⟨[],by kernel_rfl⟩
theorem laid_met (os:Os):laidMet Tryz.prog Rows.innovOnlyUptoRow.laid ((World.laidAll Tryz.prog os Rows.innovOnlyUptoRow.laid).forCall (fun _ _=>0) ⟨#[],#[.agg #[.int .i64 0,.slice none 0 0],.int .u64 0],[]⟩).memory:=
 laidMet_laidAll _ (by kernel_rfl) (by kernel_rfl)
theorem liftedUpto (os:Os)(started:os.Started)(H:Type)(enc:TypeId×Value->H)(F:Stop.Interp) :ReturnsInHanded {} Tryz.checked os 4 .any ((Rows.OpenSpec.upto Rows.innovOnlySpec).preRow enc Tryz.prog Tryz.f4 Rows.innovOnlyUptoRow.domain false Rows.innovOnlyUptoRow.laid) (((Rows.OpenSpec.upto Rows.innovOnlySpec).at F).post enc Tryz.prog Tryz.f4 false true false false):=by
 obtain⟨places,hx⟩:=reads os enc;refine returnsInHanded_of_row (C:=Tryz.checked) (s:=Rows.OpenSpec.upto Rows.innovOnlySpec) own started (by kernel_rfl) Tryz.func4
  (witness_row_at (enc:=enc) (C:=Tryz.checked) false (World.laidAll Tryz.prog os Rows.innovOnlyUptoRow.laid) #[.agg #[.int .i64 0,.slice none 0 0],.int .u64 0] (World.laidAll_os _ _ _) (by kernel_rfl) (by kernel_rfl) (by kernel_rfl)
   (OpenSpec.preRow_of_cond 16 hx (by kernel_rfl) (fun k hk=>by cases hk;kernel_rfl) (by kernel_rfl) (laid_met os))) ?_
 intro W base args ds gs before hval hW _ hcond _ hL _ _;exact contract H enc W base args ds gs before hval hW (hcond _ rfl) hL
theorem saidUpto:Rows.InnovOnlyUptoSaid:=
 OpenClaim.holds_of_cond 4 Tryz.f4 rfl rfl rfl rfl rfl rfl rfl ⟨rfl,rfl,rfl,rfl,rfl⟩ rfl rfl rfl rfl rfl (by kernel_rfl) Tryz.func4 (by kernel_rfl)
  (of_decide_eq_true (by kernel_rfl)) (by unfold Func.isWrapper;first|(rw[if_pos (by decide +kernel)];kernel_rfl)|(rw[if_neg (by decide +kernel)];exact⟨rfl,rfl⟩))
  (fun os started H enc _ F=>by rw[OpenClaim.pre_eq_preRow];exact liftedUpto os started H enc F)
theorem plain (f:FuncId)(fn:Func)(hf:Tryz.pinned.checked.prog.funcNamed "ablaut/ablautlaw31.InnovOnly" = some f)(hfn:Tryz.pinned.checked.prog.funcs[f]? = some fn) :true=Tryz.pinned.checked.prog.looks []/\∀(j:Nat) t,fn.params[j]? = some t->Tryz.pinned.checked.prog.wantsStandIn t=false:=by
 obtain rfl:f=4:=Option.some.inj ((show Tryz.prog.funcNamed "ablaut/ablautlaw31.InnovOnly" = some 4 by kernel_rfl).symm.trans hf) |>.symm;obtain rfl:fn=Tryz.f4:=(Option.some.inj (Tryz.func4.symm.trans hfn)).symm;refine⟨by kernel_rfl,fun j t ht=>?_⟩;rw[Tryz.params4]at ht;have hm:=Array.mem_of_getElem? ht;simp only[List.mem_toArray,List.mem_cons,List.not_mem_nil,or_false]at hm;rcases hm with rfl|rfl
 ·exact (show Tryz.prog.wantsStandIn 24=false by kernel_rfl)
 ·exact (show Tryz.prog.wantsStandIn 44=false by kernel_rfl)
theorem cardUpto:Rows.InnovOnlyUptoCardSaid:=
 Claim7.holds_tied_plain_at .later [] _ _ _ _ saidUpto (fun _ h=>by cases h) (by kernel_rfl) (fun _ h=>by cases h) innovOnlyUpto_row_tie rfl ⟨rfl,rfl⟩ (by kernel_rfl) rfl plain (by kernel_rfl)
end InOnly
end Go.AM
