/- What a law's walk and its plain proof need, part 10: no condition of its own. -/
import Derived.Test.YtodhnkfgkgkngaaGreatDoorWH
import Derived.Test.YtodhnkfgkgkngaaGreatDoorWF
import Derived.Test.YtodhnkfgkgkngaaGreatDoorWG
import Derived.Test.YtodhnkfgkgkngaaGreatDoorWI
import Derived.Lay
set_option linter.defProp false
set_option linter.unusedSimpArgs false
set_option linter.unusedVariables false
set_option linter.unusedSectionVars false
namespace Go.AM
def Au4:=@Go.Proofs.Tryz.params7
open Go.RowKit Go.ChangeShapes Go.WideShapes Go.ChangeAt Go.Deep Go.Proofs Go.Proofs.YtodhnkfgkgkngaaGreatDoor
namespace HiTwice
set_option maxRecDepth 100000
theorem contract (H:Type)(enc:TypeId×Value->H)(W:World)(base:Nat)(args:Array Value)(ds gs:List (DataW H))(before:List MemPlace)
 (a:∀(j:Nat) t v,Tryz.f7.params[j]? = some t->args[j]? = some v->Value.okWide Tryz.prog W .any base t v)
 (x:DataW.Whole enc Tryz.prog Tryz.f7.params.toList Rows.historyTwiceSpec.vars false W args.toList ds gs before) (hk:Rows.uptoSmall H (ds++gs)=true) (hL:laidMetH Tryz.prog Rows.historyTwiceUptoRow.laid W) :
 Calls Tryz.prog 7 args W fun e W'=>∃v,e=.returned v/\Rows.historyTwiceSpec.post enc Tryz.prog Tryz.f7 false true false false W args v W':=by
 have d:=x;obtain⟨p,q,f,z,rfl,a0,a1⟩:=x;have y:DataW.TrodAll enc Tryz.prog W 0 (fun _=>true) true Tryz.f7.params.toList args.toList ds p:=f;rw[Au4]at y a;obtain⟨v0,vs0,d0,ds0,p0,q0,g,rfl,rfl,h0,r0⟩:=trodAll_cons y;obtain⟨v1,vs1,d1,ds1,p1,q1,rfl,rfl,rfl,h1,r1⟩:=trodAll_cons r0;obtain⟨v2,vs2,d2,ds2,p2,q2,rfl,rfl,rfl,h2,r2⟩:=trodAll_cons r1;obtain⟨rfl,rfl,rfl⟩:=trodAll_nil r2;obtain rfl:args = #[v0,v1,v2]:=by cases args;simp_all
 obtain⟨rfl,rfl⟩:=trodVars_none z;have hb:=of_decide_eq_true hk;simp only[Am4,Rows.uptoBulkAll]at hb;obtain⟨cs0,c,_⟩:=okWide_struct Tryz.underlying63 (a 0 63 v0 rfl rfl);obtain⟨_,l⟩:=okWide_int Al5 (a 1 5 v1 rfl rfl);obtain⟨_,m⟩:=okWide_int Al5 (a 2 5 v2 rfl rfl);obtain⟨fu0,g0⟩:=h0;obtain⟨fu1,g1⟩:=h1;obtain⟨fu2,g2⟩:=h2;have n:Xl Tryz.prog [63,60,5,23,57,9,54,3,51,49,4,52,27,55,114,61,130]=true:=by kernel_rfl
 have b:∀t∈([63,60,5,23,57,9,54,3,51,49,4,52,27,55,114,61,130]:List Nat),t<Tryz.prog.types.size:=by decide +kernel
 obtain⟨pv0,c0,sh0⟩:=GF XO XP n b fu0 63 _ _ (by simp) g0;obtain⟨x0,l0,w0,s0⟩:=Pd _ _ sh0;have s0:CL x0<=Rows.uptoBulk d0:=s0;have e0:=c0.leD l0;rw[c]at e0;have e0:=XQ e0;rw[<- c]at e0;obtain⟨pv1,c1,sh1⟩:=GF XO XP n b fu1 5 _ _ (by simp) g1;obtain⟨x1,l1,w1,s1⟩:=N0 Al5 _ _ sh1;have s1:1<=Rows.uptoBulk d1:=s1;have e1:=To (by rw[l];rfl) (c1.leD l1);obtain⟨pv2,c2,sh2⟩:=GF XO XP n b fu2 5 _ _ (by simp) g2;obtain⟨x2,l2,w2,s2⟩:=N0 Al5 _ _ sh2;have s2:1<=Rows.uptoBulk d2:=s2;have e2:=To (by rw[m];rfl) (c2.leD l2);obtain⟨k1,o,r⟩:=XR w1;obtain⟨k2,s,u⟩:=XR w2;have hP:FunO (EF Tryz.prog) X2 [.p (.agg (AY x0)),.p (pI .u8 x1),.p (pI .u8 x2)] [] (.p (.bb true)) [] []:=
  FE (Zl _) libC (by rw[o,s];exact HL (N:=4194304) (by omega) RV (RW w0 (by omega)) (Tp (by omega)) r u)
 have hc:=Lz (args:=[.agg (AY x0),pI .u8 x1,pI .u8 x2]) (enters_of Tryz.func7 (by decide +kernel) rfl) hP (W:=W) (vs:=#[v0,v1,v2]) (XS hL) rfl (fun i hi=>by
  match i,hi with
  |0,_=>exact e0
  |1,_=>exact e1
  |2,_=>exact e2
  )
 refine hc.mono fun e W' ⟨he,w⟩=>?_;subst he;exact⟨_,rfl,Vw rfl (by kernel_rfl) Ao8 (by kernel_rfl) (by rw[Au4];decide +kernel) d rfl w⟩
theorem own:ownKnob Tryz.prog.godebug=none:=by kernel_rfl
theorem reads (os:Os){H:Type}(enc:TypeId×Value->H):∃places,DataW.whole enc Tryz.prog ((World.laidAll Tryz.prog os Rows.historyTwiceUptoRow.laid).forCall (fun _ _=>0) ⟨#[],#[.agg #[.slice none 0 0,.slice none 0 0,.slice none 0 0],.int .u8 0,.int .u8 0],[]⟩).memory Tryz.f7.params.toList Rows.historyTwiceSpec.vars false (#[.agg #[.slice none 0 0,.slice none 0 0,.slice none 0 0],.int .u8 0,.int .u8 0]:Array Value).toList 16=some ([.agg [.nil,.nil,.nil],.lit (.int .u8 0),.lit (.int .u8 0)],[],places):=
 ⟨[],by kernel_rfl⟩
theorem laid_met (os:Os):laidMet Tryz.prog Rows.historyTwiceUptoRow.laid ((World.laidAll Tryz.prog os Rows.historyTwiceUptoRow.laid).forCall (fun _ _=>0) ⟨#[],#[.agg #[.slice none 0 0,.slice none 0 0,.slice none 0 0],.int .u8 0,.int .u8 0],[]⟩).memory:=
 laidMet_laidAll _ (by kernel_rfl) (by kernel_rfl)
theorem liftedUpto (os:Os)(started:os.Started)(H:Type)(enc:TypeId×Value->H)(F:Stop.Interp) :ReturnsInHanded {} Tryz.checked os 7 .any ((Rows.OpenSpec.upto Rows.historyTwiceSpec).preRow enc Tryz.prog Tryz.f7 Rows.historyTwiceUptoRow.domain false Rows.historyTwiceUptoRow.laid) (((Rows.OpenSpec.upto Rows.historyTwiceSpec).at F).post enc Tryz.prog Tryz.f7 false true false false):=by
 obtain⟨places,hx⟩:=reads os enc;refine returnsInHanded_of_row (C:=Tryz.checked) (s:=Rows.OpenSpec.upto Rows.historyTwiceSpec) own started (by kernel_rfl) Tryz.func7
  (witness_row_at (enc:=enc) (C:=Tryz.checked) false (World.laidAll Tryz.prog os Rows.historyTwiceUptoRow.laid) #[.agg #[.slice none 0 0,.slice none 0 0,.slice none 0 0],.int .u8 0,.int .u8 0] (World.laidAll_os _ _ _) (by kernel_rfl) (by kernel_rfl) (by kernel_rfl)
   (OpenSpec.preRow_of_cond 16 hx (by kernel_rfl) (fun k hk=>by cases hk;kernel_rfl) (by kernel_rfl) (laid_met os))) ?_
 intro W base args ds gs before b c _ a _ hL _ _;exact contract H enc W base args ds gs before b c (a _ rfl) hL
theorem gA:jA_ Tryz.pinned.checked.prog 7 Tryz.f7 (Rows.OpenSpec.upto Rows.historyTwiceSpec).bare Rows.historyTwiceUptoRow=true:=by kernel_rfl
theorem gB:jB_ Tryz.pinned.checked.prog 7 Tryz.f7 (Rows.OpenSpec.upto Rows.historyTwiceSpec).bare Rows.historyTwiceUptoRow=true:=by kernel_rfl
theorem gC:jC_ Tryz.pinned.checked.prog 7 Tryz.f7 (Rows.OpenSpec.upto Rows.historyTwiceSpec).bare Rows.historyTwiceUptoRow=true:=by kernel_rfl
theorem gD:jD_ Tryz.pinned.checked.prog 7 Tryz.f7 (Rows.OpenSpec.upto Rows.historyTwiceSpec).bare Rows.historyTwiceUptoRow=true:=by kernel_rfl
theorem gE:jE_ Tryz.pinned.checked.prog 7 Tryz.f7 (Rows.OpenSpec.upto Rows.historyTwiceSpec).bare Rows.historyTwiceUptoRow=true:=by kernel_rfl
theorem gF:jF_ Tryz.pinned.checked.prog 7 Tryz.f7 (Rows.OpenSpec.upto Rows.historyTwiceSpec).bare Rows.historyTwiceUptoRow=true:=by kernel_rfl
theorem saidUpto:Rows.HistoryTwiceUptoSaid:=
 OpenClaim.holds_of_cond 7 Tryz.f7 rfl rfl rfl rfl rfl rfl rfl ⟨rfl,rfl,rfl,rfl,rfl⟩ rfl rfl rfl rfl rfl (by kernel_rfl) Tryz.func7 (Tq gA gB gC gD gE gF)
  (of_decide_eq_true (by kernel_rfl)) (by unfold Func.isWrapper;first|(rw[if_pos (by decide +kernel)];kernel_rfl)|(rw[if_neg (by decide +kernel)];exact⟨rfl,rfl⟩))
  (fun os started H enc _ F=>by rw[OpenClaim.pre_eq_preRow];exact liftedUpto os started H enc F)
theorem plain (f:FuncId)(fn:Func)(b:Tryz.pinned.checked.prog.funcNamed "ablaut/ablautlaw25.HistoryTwice" = some f)(a:Tryz.pinned.checked.prog.funcs[f]? = some fn) :true=Tryz.pinned.checked.prog.looks []/\∀(j:Nat) t,fn.params[j]? = some t->Tryz.pinned.checked.prog.wantsStandIn t=false:=by
 obtain rfl:f=7:=Aj0 ((show Tryz.prog.funcNamed "ablaut/ablautlaw25.HistoryTwice" = some 7 by kernel_rfl).symm.trans b) |>.symm;obtain rfl:fn=Tryz.f7:=(Aj0 (Tryz.func7.symm.trans a)).symm;refine⟨by kernel_rfl,fun j t ht=>?_⟩;rw[Au4]at ht;have hm:=As6 ht;simp only[List.mem_toArray,Ah9,List.not_mem_nil,or_false]at hm;rcases hm with rfl|rfl|rfl
 ·exact (show Tryz.prog.wantsStandIn 63=false by kernel_rfl)
 ·exact (show Tryz.prog.wantsStandIn 5=false by kernel_rfl)
 ·exact (show Tryz.prog.wantsStandIn 5=false by kernel_rfl)
theorem cardUpto:Rows.HistoryTwiceUptoCardSaid:=
 Claim7.holds_tied_plain_at .later [] _ _ _ _ saidUpto (fun _ h=>by cases h) (by kernel_rfl) (fun _ h=>by cases h) historyTwiceUpto_row_tie rfl ⟨rfl,rfl⟩ (by kernel_rfl) rfl plain (by kernel_rfl)
end HiTwice
end Go.AM
