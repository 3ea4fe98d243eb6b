/- What a law's walk and its plain proof need, part 12: no condition of its own. -/
import Derived.Test.YtfcfdofmgkpmbaaGreatDoorJH
import Derived.Test.YtfcfdofmgkpmbaaGreatDoorJG
import Derived.Test.YtfcfdofmgkpmbaaGreatDoorJF
import Derived.Test.YtfcfdofmgkpmbaaGreatDoorJI
import Derived.Lay
set_option linter.unusedSimpArgs false
set_option linter.unusedVariables false
set_option linter.unusedSectionVars false
namespace Go.AM
open Go.RowKit Go.ChangeShapes Go.WideShapes Go.ChangeAt Go.Deep Go.Proofs Go.Proofs.YtfcfdofmgkpmbaaGreatDoor
namespace InNumbers
set_option maxRecDepth 100000
theorem contract (H:Type)(enc:TypeId×Value->H)(W:World)(base:Nat)(args:Array Value)(ds gs:List (DataW H))(before:List MemPlace)
 (hval:∀(j:Nat) t v,Tryz.f10.params[j]? = some t->args[j]? = some v->Value.okWide Tryz.prog W .any base t v)
 (hW:DataW.Whole enc Tryz.prog Tryz.f10.params.toList Rows.innovNumbersSpec.vars false W args.toList ds gs before) (hk:Rows.uptoSmall H (ds++gs)=true) (hL:laidMetH Tryz.prog Rows.innovNumbersUptoRow.laid W) :
 Calls Tryz.prog 10 args W fun e W'=>∃v,e=.returned v/\Rows.innovNumbersSpec.post enc Tryz.prog Tryz.f10 false true false false W args v W':=by
 have hW':=hW;obtain⟨p,q,hA0,hV,rfl,hfz,hnd⟩:=hW;have hA:DataW.TrodAll enc Tryz.prog W 0 (fun _=>true) true Tryz.f10.params.toList args.toList ds p:=hA0;rw[Tryz.params10]at hA hval;obtain⟨v0,vs0,d0,ds0,p0,q0,hargs,rfl,rfl,h0,r0⟩:=trodAll_cons hA;obtain⟨v1,vs1,d1,ds1,p1,q1,rfl,rfl,rfl,h1,r1⟩:=trodAll_cons r0;obtain⟨rfl,rfl,rfl⟩:=trodAll_nil r1;obtain rfl:args = #[v0,v1]:=by cases args;simp_all
 obtain⟨rfl,rfl⟩:=trodVars_none hV;have hb:=of_decide_eq_true hk;simp only[List.append_nil,Rows.uptoBulkAll]at hb;obtain⟨_,hv0⟩:=okWide_int Tryz.underlying5 (hval 0 5 v0 rfl rfl);obtain⟨a1,len1,cap1,hv1⟩:=okWide_slice Tryz.underlying22 (hval 1 22 v1 rfl rfl);obtain⟨fu0,g0⟩:=h0;obtain⟨fu1,g1⟩:=h1;have hT:OR Tryz.prog [5,22,44]=true:=by kernel_rfl
 have hTl:∀t∈([5,22,44]:List Nat),t<Tryz.prog.types.size:=by decide +kernel
 obtain⟨pv0,c0,sh0⟩:=U4 Ni Nj hT hTl fu0 5 _ _ (by simp) g0;obtain⟨x0,l0,w0,s0⟩:=Af Tryz.underlying5 _ _ sh0;have s0:1<=Rows.uptoBulk d0:=s0;have e0:=Gp (by rw[hv0];rfl) (c0.leD l0);obtain⟨pv1,c1,sh1⟩:=U4 Ni Nj hT hTl fu1 22 _ _ (by simp) g1;obtain⟨x1,l1,w1,s1⟩:=Gq Tryz.underlying22 (by kernel_rfl) (Af Tryz.underlying44) _ _ sh1;have s1:(Uv (fun i=>1) x1.n+1)<=Rows.uptoBulk d1:=s1;have e1:=Gp (by rw[hv1];rfl) (c1.leD l1);obtain⟨c0,hc0,hc1⟩:=ZJ w0;have hP:FunO (EH Tryz.prog) Ag [.p (pI .u8 x0),.p (vSl 1 (cI .u64) x1)] [] (.p (.bb true)) [] []:=
  GQ (ZB _) Af1 (by rw[hc0];exact Jg (N:=4194304) (by omega) FB hc1 (fun i hi=>Mq (w1 i hi)))
 have hc:=BA (args:=[pI .u8 x0,vSl 1 (cI .u64) x1]) (enters_of Cp (by decide +kernel) rfl) hP (W:=W) (vs:=#[v0,v1]) (Nk hL) rfl (fun i hi=>by
  match i,hi with
  |0,_=>exact e0
  |1,_=>exact e1
  )
 refine hc.mono fun e W' ⟨he,hkp⟩=>?_;subst he;exact⟨_,rfl,Jy rfl (by kernel_rfl) Tryz.underlying4 (by kernel_rfl) (by rw[Tryz.params10];decide +kernel) hW' rfl hkp⟩
theorem own:ownKnob Tryz.prog.godebug=none:=by kernel_rfl
theorem reads (os:Os){H:Type}(enc:TypeId×Value->H):∃places,DataW.whole enc Tryz.prog ((World.laidAll Tryz.prog os Rows.innovNumbersUptoRow.laid).forCall (fun _ _=>0) ⟨#[],#[.int .u8 0,.slice none 0 0],[]⟩).memory Tryz.f10.params.toList Rows.innovNumbersSpec.vars false (#[.int .u8 0,.slice none 0 0]:Array Value).toList 16=some ([.lit (.int .u8 0),.nil],[],places):=
 ⟨[],by kernel_rfl⟩
theorem laid_met (os:Os):laidMet Tryz.prog Rows.innovNumbersUptoRow.laid ((World.laidAll Tryz.prog os Rows.innovNumbersUptoRow.laid).forCall (fun _ _=>0) ⟨#[],#[.int .u8 0,.slice none 0 0],[]⟩).memory:=
 laidMet_laidAll _ (by kernel_rfl) (by kernel_rfl)
theorem liftedUpto (os:Os)(started:os.Started)(H:Type)(enc:TypeId×Value->H)(F:Stop.Interp) :ReturnsInHanded {} Tryz.checked os 10 .any ((Rows.OpenSpec.upto Rows.innovNumbersSpec).preRow enc Tryz.prog Tryz.f10 Rows.innovNumbersUptoRow.domain false Rows.innovNumbersUptoRow.laid) (((Rows.OpenSpec.upto Rows.innovNumbersSpec).at F).post enc Tryz.prog Tryz.f10 false true false false):=by
 obtain⟨places,hx⟩:=reads os enc;refine returnsInHanded_of_row (C:=Tryz.checked) (s:=Rows.OpenSpec.upto Rows.innovNumbersSpec) own started (by kernel_rfl) Tryz.func10
  (witness_row_at (enc:=enc) (C:=Tryz.checked) false (World.laidAll Tryz.prog os Rows.innovNumbersUptoRow.laid) #[.int .u8 0,.slice none 0 0] (World.laidAll_os _ _ _) (by kernel_rfl) (by kernel_rfl) (by kernel_rfl)
   (OpenSpec.preRow_of_cond 16 hx (by kernel_rfl) (fun k hk=>by cases hk;kernel_rfl) (by kernel_rfl) (laid_met os))) ?_
 intro W base args ds gs before hval hW _ hcond _ hL _ _;exact contract H enc W base args ds gs before hval hW (hcond _ rfl) hL
theorem saidUpto:Rows.InnovNumbersUptoSaid:=
 OpenClaim.holds_of_cond 10 Tryz.f10 rfl rfl rfl rfl rfl rfl rfl ⟨rfl,rfl,rfl,rfl,rfl⟩ rfl rfl rfl rfl rfl (by kernel_rfl) Tryz.func10 (by kernel_rfl)
  (of_decide_eq_true (by kernel_rfl)) (by unfold Func.isWrapper;first|(rw[if_pos (by decide +kernel)];kernel_rfl)|(rw[if_neg (by decide +kernel)];exact⟨rfl,rfl⟩))
  (fun os started H enc _ F=>by rw[OpenClaim.pre_eq_preRow];exact liftedUpto os started H enc F)
theorem plain (f:FuncId)(fn:Func)(hf:Tryz.pinned.checked.prog.funcNamed "ablaut/ablautlaw31.InnovNumbers" = some f)(hfn:Tryz.pinned.checked.prog.funcs[f]? = some fn) :true=Tryz.pinned.checked.prog.looks []/\∀(j:Nat) t,fn.params[j]? = some t->Tryz.pinned.checked.prog.wantsStandIn t=false:=by
 obtain rfl:f=10:=Option.some.inj ((show Tryz.prog.funcNamed "ablaut/ablautlaw31.InnovNumbers" = some 10 by kernel_rfl).symm.trans hf) |>.symm;obtain rfl:fn=Tryz.f10:=(Option.some.inj (Tryz.func10.symm.trans hfn)).symm;refine⟨by kernel_rfl,fun j t ht=>?_⟩;rw[Tryz.params10]at ht;have hm:=Array.mem_of_getElem? ht;simp only[List.mem_toArray,List.mem_cons,List.not_mem_nil,or_false]at hm;rcases hm with rfl|rfl
 ·exact (show Tryz.prog.wantsStandIn 5=false by kernel_rfl)
 ·exact (show Tryz.prog.wantsStandIn 22=false by kernel_rfl)
theorem cardUpto:Rows.InnovNumbersUptoCardSaid:=
 Claim7.holds_tied_plain_at .later [] _ _ _ _ saidUpto (fun _ h=>by cases h) (by kernel_rfl) (fun _ h=>by cases h) innovNumbersUpto_row_tie rfl ⟨rfl,rfl⟩ (by kernel_rfl) rfl plain (by kernel_rfl)
end InNumbers
end Go.AM
