/- What a law's walk and its plain proof need, part 11: no condition of its own. -/
import Derived.Test.YtodhnkfgkgkngaaGreatDoorOI
import Derived.Test.YtodhnkfgkgkngaaGreatDoorOG
import Derived.Test.YtodhnkfgkgkngaaGreatDoorOH
import Derived.Test.YtodhnkfgkgkngaaGreatDoorOJ
import Derived.Lay
set_option linter.defProp false
set_option linter.unusedSimpArgs false
set_option linter.unusedVariables false
set_option linter.unusedSectionVars false
namespace Go.AM
def AQ3:=@Go.Proofs.Tryz.params8
open Go.RowKit Go.ChangeShapes Go.WideShapes Go.ChangeAt Go.Deep Go.Proofs Go.Proofs.YtodhnkfgkgkngaaGreatDoor
namespace HiOutcomes
set_option maxRecDepth 100000
theorem contract (H:Type)(enc:TypeId×Value->H)(W:World)(base:Nat)(args:Array Value)(ds gs:List (DataW H))(before:List MemPlace)
 (a:∀(j:Nat) t v,Tryz.f8.params[j]? = some t->args[j]? = some v->Value.okWide Tryz.prog W .any base t v)
 (w:DataW.Whole enc Tryz.prog Tryz.f8.params.toList Rows.historyOutcomesSpec.vars false W args.toList ds gs before) (hk:Rows.uptoSmall H (ds++gs)=true) (hL:laidMetH Tryz.prog Rows.historyOutcomesUptoRow.laid W) :
 Calls Tryz.prog 8 args W fun e W'=>∃v,e=.returned v/\Rows.historyOutcomesSpec.post enc Tryz.prog Tryz.f8 false true false false W args v W':=by
 have f:=w;obtain⟨p,q,l,y,rfl,z,a0⟩:=w;have x:DataW.TrodAll enc Tryz.prog W 0 (fun _=>true) true Tryz.f8.params.toList args.toList ds p:=l;rw[AQ3]at x a;obtain⟨v0,vs0,d0,ds0,p0,q0,m,rfl,rfl,h0,r0⟩:=trodAll_cons x;obtain⟨v1,vs1,d1,ds1,p1,q1,rfl,rfl,rfl,h1,r1⟩:=trodAll_cons r0;obtain⟨v2,vs2,d2,ds2,p2,q2,rfl,rfl,rfl,h2,r2⟩:=trodAll_cons r1;obtain⟨rfl,rfl,rfl⟩:=trodAll_nil r2;obtain rfl:args = #[v0,v1,v2]:=by cases args;simp_all
 obtain⟨rfl,rfl⟩:=trodVars_none y;have hb:=of_decide_eq_true hk;simp only[AH7,Rows.uptoBulkAll]at hb;obtain⟨cs0,c,_⟩:=okWide_struct AM1 (a 0 63 v0 rfl rfl);obtain⟨cs1,d,_⟩:=okWide_struct AM1 (a 1 63 v1 rfl rfl);obtain⟨a2,len2,cap2,o⟩:=okWide_slice Tryz.underlying33 (a 2 33 v2 rfl rfl);obtain⟨fu0,g0⟩:=h0;obtain⟨fu1,g1⟩:=h1;obtain⟨fu2,g2⟩:=h2;have r:Aa4 Tryz.prog [63,60,5,23,57,9,54,3,51,49,4,52,27,55,114,61,130,33]=true:=by kernel_rfl
 have b:∀t∈([63,60,5,23,57,9,54,3,51,49,4,52,27,55,114,61,130,33]:List Nat),t<Tryz.prog.types.size:=by decide +kernel
 obtain⟨pv0,c0,sh0⟩:=HE Ae2 Ae3 r b fu0 63 _ _ (by simp) g0;obtain⟨x0,l0,w0,s0⟩:=Jr _ _ sh0;have s0:Fm x0<=Rows.uptoBulk d0:=s0;have e0:=c0.leD l0;rw[c]at e0;have e0:=VH e0;rw[<- c]at e0;obtain⟨pv1,c1,sh1⟩:=HE Ae2 Ae3 r b fu1 63 _ _ (by simp) g1;obtain⟨x1,l1,w1,s1⟩:=Jr _ _ sh1;have s1:Fm x1<=Rows.uptoBulk d1:=s1;have e1:=c1.leD l1;rw[d]at e1;have e1:=VH e1;rw[<- d]at e1;obtain⟨pv2,c2,sh2⟩:=HE Ae2 Ae3 r b fu2 33 _ _ (by simp) g2;obtain⟨x2,l2,w2,s2⟩:=Z5 Tryz.underlying33 (by kernel_rfl) (Z5 AM2 (by kernel_rfl) Dx) _ _ sh2;have s2:(HC (fun i=>HC (fun i=>AL ((x2.g i).g i)) (x2.g i).n+1) x2.n+1)<=Rows.uptoBulk d2:=s2;have e2:=Ae4 (by rw[o];rfl) (c2.leD l2);have hP:FunO (FE Tryz.prog) T3 [.p (.agg (W8 x0)),.p (.agg (W8 x1)),.p (vSl 1 (cL 2 A0) x2)] [] (.p (.bb true)) [] []:=
  EB (good _) libC (FZ (N:=4194304) (by omega) Uo (Ma w0 (by omega)) (Ma w1 (by omega)) (fun i s=>Ap6 (w2 i s)))
 have hc:=Nc (args:=[.agg (W8 x0),.agg (W8 x1),vSl 1 (cL 2 A0) x2]) (enters_of Tryz.func8 (by decide +kernel) rfl) hP (W:=W) (vs:=#[v0,v1,v2]) (Ae5 hL) rfl (fun i s=>by
  match i,s with
  |0,_=>exact e0
  |1,_=>exact e1
  |2,_=>exact e2
  )
 refine hc.mono fun e W' ⟨he,u⟩=>?_;subst he;exact⟨_,rfl,Yb rfl (by kernel_rfl) AI8 (by kernel_rfl) (by rw[AQ3];decide +kernel) f rfl u⟩
theorem own:ownKnob Tryz.prog.godebug=none:=by kernel_rfl
theorem reads (os:Os){H:Type}(enc:TypeId×Value->H):∃places,DataW.whole enc Tryz.prog ((World.laidAll Tryz.prog os Rows.historyOutcomesUptoRow.laid).forCall (fun _ _=>0) ⟨#[],#[.agg #[.slice none 0 0,.slice none 0 0,.slice none 0 0],.agg #[.slice none 0 0,.slice none 0 0,.slice none 0 0],.slice none 0 0],[]⟩).memory Tryz.f8.params.toList Rows.historyOutcomesSpec.vars false (#[.agg #[.slice none 0 0,.slice none 0 0,.slice none 0 0],.agg #[.slice none 0 0,.slice none 0 0,.slice none 0 0],.slice none 0 0]:Array Value).toList 16=some ([.agg [.nil,.nil,.nil],.agg [.nil,.nil,.nil],.nil],[],places):=
 ⟨[],by kernel_rfl⟩
theorem laid_met (os:Os):laidMet Tryz.prog Rows.historyOutcomesUptoRow.laid ((World.laidAll Tryz.prog os Rows.historyOutcomesUptoRow.laid).forCall (fun _ _=>0) ⟨#[],#[.agg #[.slice none 0 0,.slice none 0 0,.slice none 0 0],.agg #[.slice none 0 0,.slice none 0 0,.slice none 0 0],.slice none 0 0],[]⟩).memory:=
 laidMet_laidAll _ (by kernel_rfl) (by kernel_rfl)
theorem liftedUpto (os:Os)(started:os.Started)(H:Type)(enc:TypeId×Value->H)(F:Stop.Interp) :ReturnsInHanded {} Tryz.checked os 8 .any ((Rows.OpenSpec.upto Rows.historyOutcomesSpec).preRow enc Tryz.prog Tryz.f8 Rows.historyOutcomesUptoRow.domain false Rows.historyOutcomesUptoRow.laid) (((Rows.OpenSpec.upto Rows.historyOutcomesSpec).at F).post enc Tryz.prog Tryz.f8 false true false false):=by
 obtain⟨places,hx⟩:=reads os enc;refine returnsInHanded_of_row (C:=Tryz.checked) (s:=Rows.OpenSpec.upto Rows.historyOutcomesSpec) own started (by kernel_rfl) Tryz.func8
  (witness_row_at (enc:=enc) (C:=Tryz.checked) false (World.laidAll Tryz.prog os Rows.historyOutcomesUptoRow.laid) #[.agg #[.slice none 0 0,.slice none 0 0,.slice none 0 0],.agg #[.slice none 0 0,.slice none 0 0,.slice none 0 0],.slice none 0 0] (World.laidAll_os _ _ _) (by kernel_rfl) (by kernel_rfl) (by kernel_rfl)
   (OpenSpec.preRow_of_cond 16 hx (by kernel_rfl) (fun k hk=>by cases hk;kernel_rfl) (by kernel_rfl) (laid_met os))) ?_
 intro W base args ds gs before b c _ a _ hL _ _;exact contract H enc W base args ds gs before b c (a _ rfl) hL
theorem gA:jA_ Tryz.pinned.checked.prog 8 Tryz.f8 (Rows.OpenSpec.upto Rows.historyOutcomesSpec).bare Rows.historyOutcomesUptoRow=true:=by kernel_rfl
theorem gB:jB_ Tryz.pinned.checked.prog 8 Tryz.f8 (Rows.OpenSpec.upto Rows.historyOutcomesSpec).bare Rows.historyOutcomesUptoRow=true:=by kernel_rfl
theorem gC:jC_ Tryz.pinned.checked.prog 8 Tryz.f8 (Rows.OpenSpec.upto Rows.historyOutcomesSpec).bare Rows.historyOutcomesUptoRow=true:=by kernel_rfl
theorem gD:jD_ Tryz.pinned.checked.prog 8 Tryz.f8 (Rows.OpenSpec.upto Rows.historyOutcomesSpec).bare Rows.historyOutcomesUptoRow=true:=by kernel_rfl
theorem gE:jE_ Tryz.pinned.checked.prog 8 Tryz.f8 (Rows.OpenSpec.upto Rows.historyOutcomesSpec).bare Rows.historyOutcomesUptoRow=true:=by kernel_rfl
theorem gF:jF_ Tryz.pinned.checked.prog 8 Tryz.f8 (Rows.OpenSpec.upto Rows.historyOutcomesSpec).bare Rows.historyOutcomesUptoRow=true:=by kernel_rfl
theorem saidUpto:Rows.HistoryOutcomesUptoSaid:=
 OpenClaim.holds_of_cond 8 Tryz.f8 rfl rfl rfl rfl rfl rfl rfl ⟨rfl,rfl,rfl,rfl,rfl⟩ rfl rfl rfl rfl rfl (by kernel_rfl) Tryz.func8 (VJ gA gB gC gD gE gF)
  (of_decide_eq_true (by kernel_rfl)) (by unfold Func.isWrapper;first|(rw[if_pos (by decide +kernel)];kernel_rfl)|(rw[if_neg (by decide +kernel)];exact⟨rfl,rfl⟩))
  (fun os started H enc _ F=>by rw[OpenClaim.pre_eq_preRow];exact liftedUpto os started H enc F)
theorem plain (f:FuncId)(fn:Func)(b:Tryz.pinned.checked.prog.funcNamed "ablaut/ablautlaw25.HistoryOutcomes" = some f)(a:Tryz.pinned.checked.prog.funcs[f]? = some fn) :true=Tryz.pinned.checked.prog.looks []/\∀(j:Nat) t,fn.params[j]? = some t->Tryz.pinned.checked.prog.wantsStandIn t=false:=by
 obtain rfl:f=8:=AA8 ((show Tryz.prog.funcNamed "ablaut/ablautlaw25.HistoryOutcomes" = some 8 by kernel_rfl).symm.trans b) |>.symm;obtain rfl:fn=Tryz.f8:=(AA8 (Tryz.func8.symm.trans a)).symm;refine⟨by kernel_rfl,fun j t ht=>?_⟩;rw[AQ3]at ht;have hm:=AO1 ht;simp only[List.mem_toArray,AB2,List.not_mem_nil,or_false]at hm;rcases hm with rfl|rfl|rfl
 ·exact (show Tryz.prog.wantsStandIn 63=false by kernel_rfl)
 ·exact (show Tryz.prog.wantsStandIn 63=false by kernel_rfl)
 ·exact (show Tryz.prog.wantsStandIn 33=false by kernel_rfl)
theorem cardUpto:Rows.HistoryOutcomesUptoCardSaid:=
 Claim7.holds_tied_plain_at .later [] _ _ _ _ saidUpto (fun _ h=>by cases h) (by kernel_rfl) (fun _ h=>by cases h) historyOutcomesUpto_row_tie rfl ⟨rfl,rfl⟩ (by kernel_rfl) rfl plain (by kernel_rfl)
end HiOutcomes
end Go.AM
