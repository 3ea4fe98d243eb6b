/- What a law's walk and its plain proof need, part 9: no condition of its own. -/
import Derived.Test.YtfcfdofmgkpmbaaGreatDoorIG
import Derived.Test.YtfcfdofmgkpmbaaGreatDoorIF
import Derived.Test.YtfcfdofmgkpmbaaGreatDoorIH
import Derived.Lay
set_option linter.defProp false
set_option linter.unusedSimpArgs false
set_option linter.unusedVariables false
set_option linter.unusedSectionVars false
namespace Go.AM
def Ac5:=@Go.Proofs.Tryz.underlying4
def Ah9:=@Go.Proofs.Tryz.params7
open Go.RowKit Go.ChangeShapes Go.WideShapes Go.ChangeAt Go.Deep Go.Proofs Go.Proofs.YtfcfdofmgkpmbaaGreatDoor
namespace InPairs
set_option maxRecDepth 100000
theorem contract (H:Type)(enc:TypeId×Value->H)(W:World)(base:Nat)(args:Array Value)(ds gs:List (DataW H))(before:List MemPlace)
 (hval:∀(j:Nat) t v,Tryz.f7.params[j]? = some t->args[j]? = some v->Value.okWide Tryz.prog W .any base t v)
 (hW:DataW.Whole enc Tryz.prog Tryz.f7.params.toList Rows.innovPairsSpec.vars false W args.toList ds gs before) (hk:Rows.uptoSmall H (ds++gs)=true) (hL:laidMetH Tryz.prog Rows.innovPairsUptoRow.laid W) :
 Calls Tryz.prog 7 args W fun e W'=>∃v,e=.returned v/\Rows.innovPairsSpec.post enc Tryz.prog Tryz.f7 false true false false W args v W':=by
 have hW':=hW;obtain⟨p,q,hA0,hV,rfl,hfz,hnd⟩:=hW;have hA:DataW.TrodAll enc Tryz.prog W 0 (fun _=>true) true Tryz.f7.params.toList args.toList ds p:=hA0;rw[Ah9]at hA hval;obtain⟨v0,vs0,d0,ds0,p0,q0,hargs,rfl,rfl,h0,r0⟩:=trodAll_cons hA;obtain⟨v1,vs1,d1,ds1,p1,q1,rfl,rfl,rfl,h1,r1⟩:=trodAll_cons r0;obtain⟨v2,vs2,d2,ds2,p2,q2,rfl,rfl,rfl,h2,r2⟩:=trodAll_cons r1;obtain⟨rfl,rfl,rfl⟩:=trodAll_nil r2;obtain rfl:args = #[v0,v1,v2]:=by cases args;simp_all
 obtain⟨rfl,rfl⟩:=trodVars_none hV;have hb:=of_decide_eq_true hk;simp only[Aa7,Rows.uptoBulkAll]at hb;obtain⟨cs0,hv0,_⟩:=okWide_struct Tryz.underlying24 (hval 0 24 v0 rfl rfl);obtain⟨_,hv1⟩:=okWide_int ZT (hval 1 3 v1 rfl rfl);obtain⟨_,hv2⟩:=okWide_int ZT (hval 2 3 v2 rfl rfl);obtain⟨fu0,g0⟩:=h0;obtain⟨fu1,g1⟩:=h1;obtain⟨fu2,g2⟩:=h2;have hT:Vl Tryz.prog [24,3,22,44]=true:=by kernel_rfl
 have hTl:∀t∈([24,3,22,44]:List Nat),t<Tryz.prog.types.size:=by decide +kernel
 obtain⟨pv0,c0,sh0⟩:=GG VN VO hT hTl fu0 24 _ _ (by simp) g0;obtain⟨x0,l0,w0,s0⟩:=GH _ _ sh0;have s0:BV x0<=Rows.uptoBulk d0:=s0;have e0:=c0.leD l0;rw[hv0]at e0;have e0:=VP e0;rw[<- hv0]at e0;obtain⟨pv1,c1,sh1⟩:=GG VN VO hT hTl fu1 3 _ _ (by simp) g1;obtain⟨x1,l1,w1,s1⟩:=FG ZT _ _ sh1;have s1:1<=Rows.uptoBulk d1:=s1;have e1:=Se (by rw[hv1];rfl) (c1.leD l1);obtain⟨pv2,c2,sh2⟩:=GG VN VO hT hTl fu2 3 _ _ (by simp) g2;obtain⟨x2,l2,w2,s2⟩:=FG ZT _ _ sh2;have s2:1<=Rows.uptoBulk d2:=s2;have e2:=Se (by rw[hv2];rfl) (c2.leD l2);have hP:FunO (EH Tryz.prog) AC [.p (.agg (A9 x0)),.p (pI .i64 x1),.p (pI .i64 x2)] [] (.p (.bb true)) [] []:=
  HN (good _) libC (JU (N:=4194304) (by omega) QS (Xq w0) x1 x2)
 have hc:=Lx (args:=[.agg (A9 x0),pI .i64 x1,pI .i64 x2]) (enters_of Dr (by decide +kernel) rfl) hP (W:=W) (vs:=#[v0,v1,v2]) (VQ hL) rfl (fun i hi=>by
  match i,hi with
  |0,_=>exact e0
  |1,_=>exact e1
  |2,_=>exact e2
  )
 refine hc.mono fun e W' ⟨he,hkp⟩=>?_;subst he;exact⟨_,rfl,TQ rfl (by kernel_rfl) Ac5 (by kernel_rfl) (by rw[Ah9];decide +kernel) hW' rfl hkp⟩
theorem own:ownKnob Tryz.prog.godebug=none:=by kernel_rfl
theorem reads (os:Os){H:Type}(enc:TypeId×Value->H):∃places,DataW.whole enc Tryz.prog ((World.laidAll Tryz.prog os Rows.innovPairsUptoRow.laid).forCall (fun _ _=>0) ⟨#[],#[.agg #[.int .i64 0,.slice none 0 0],.int .i64 0,.int .i64 0],[]⟩).memory Tryz.f7.params.toList Rows.innovPairsSpec.vars false (#[.agg #[.int .i64 0,.slice none 0 0],.int .i64 0,.int .i64 0]:Array Value).toList 16=some ([.agg [.lit (.int .i64 0),.nil],.lit (.int .i64 0),.lit (.int .i64 0)],[],places):=
 ⟨[],by kernel_rfl⟩
theorem laid_met (os:Os):laidMet Tryz.prog Rows.innovPairsUptoRow.laid ((World.laidAll Tryz.prog os Rows.innovPairsUptoRow.laid).forCall (fun _ _=>0) ⟨#[],#[.agg #[.int .i64 0,.slice none 0 0],.int .i64 0,.int .i64 0],[]⟩).memory:=
 laidMet_laidAll _ (by kernel_rfl) (by kernel_rfl)
theorem liftedUpto (os:Os)(started:os.Started)(H:Type)(enc:TypeId×Value->H)(F:Stop.Interp) :ReturnsInHanded {} Tryz.checked os 7 .any ((Rows.OpenSpec.upto Rows.innovPairsSpec).preRow enc Tryz.prog Tryz.f7 Rows.innovPairsUptoRow.domain false Rows.innovPairsUptoRow.laid) (((Rows.OpenSpec.upto Rows.innovPairsSpec).at F).post enc Tryz.prog Tryz.f7 false true false false):=by
 obtain⟨places,hx⟩:=reads os enc;refine returnsInHanded_of_row (C:=Tryz.checked) (s:=Rows.OpenSpec.upto Rows.innovPairsSpec) own started (by kernel_rfl) Tryz.func7
  (witness_row_at (enc:=enc) (C:=Tryz.checked) false (World.laidAll Tryz.prog os Rows.innovPairsUptoRow.laid) #[.agg #[.int .i64 0,.slice none 0 0],.int .i64 0,.int .i64 0] (World.laidAll_os _ _ _) (by kernel_rfl) (by kernel_rfl) (by kernel_rfl)
   (OpenSpec.preRow_of_cond 16 hx (by kernel_rfl) (fun k hk=>by cases hk;kernel_rfl) (by kernel_rfl) (laid_met os))) ?_
 intro W base args ds gs before hval hW _ hcond _ hL _ _;exact contract H enc W base args ds gs before hval hW (hcond _ rfl) hL
theorem saidUpto:Rows.InnovPairsUptoSaid:=
 OpenClaim.holds_of_cond 7 Tryz.f7 rfl rfl rfl rfl rfl rfl rfl ⟨rfl,rfl,rfl,rfl,rfl⟩ rfl rfl rfl rfl rfl (by kernel_rfl) Tryz.func7 (by kernel_rfl)
  (of_decide_eq_true (by kernel_rfl)) (by unfold Func.isWrapper;first|(rw[if_pos (by decide +kernel)];kernel_rfl)|(rw[if_neg (by decide +kernel)];exact⟨rfl,rfl⟩))
  (fun os started H enc _ F=>by rw[OpenClaim.pre_eq_preRow];exact liftedUpto os started H enc F)
theorem plain (f:FuncId)(fn:Func)(hf:Tryz.pinned.checked.prog.funcNamed "ablaut/ablautlaw31.InnovPairs" = some f)(hfn:Tryz.pinned.checked.prog.funcs[f]? = some fn) :true=Tryz.pinned.checked.prog.looks []/\∀(j:Nat) t,fn.params[j]? = some t->Tryz.pinned.checked.prog.wantsStandIn t=false:=by
 obtain rfl:f=7:=Ac8 ((show Tryz.prog.funcNamed "ablaut/ablautlaw31.InnovPairs" = some 7 by kernel_rfl).symm.trans hf) |>.symm;obtain rfl:fn=Tryz.f7:=(Ac8 (Tryz.func7.symm.trans hfn)).symm;refine⟨by kernel_rfl,fun j t ht=>?_⟩;rw[Ah9]at ht;have hm:=Ag1 ht;simp only[List.mem_toArray,Zz,List.not_mem_nil,or_false]at hm;rcases hm with rfl|rfl|rfl
 ·exact (show Tryz.prog.wantsStandIn 24=false by kernel_rfl)
 ·exact (show Tryz.prog.wantsStandIn 3=false by kernel_rfl)
 ·exact (show Tryz.prog.wantsStandIn 3=false by kernel_rfl)
theorem cardUpto:Rows.InnovPairsUptoCardSaid:=
 Claim7.holds_tied_plain_at .later [] _ _ _ _ saidUpto (fun _ h=>by cases h) (by kernel_rfl) (fun _ h=>by cases h) innovPairsUpto_row_tie rfl ⟨rfl,rfl⟩ (by kernel_rfl) rfl plain (by kernel_rfl)
end InPairs
end Go.AM
