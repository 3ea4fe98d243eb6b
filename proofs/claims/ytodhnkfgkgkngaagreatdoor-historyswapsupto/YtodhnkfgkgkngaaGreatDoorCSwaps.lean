/- Part 11. -/
import Derived.Test.YtodhnkfgkgkngaaGreatDoorXI
import Derived.Test.YtodhnkfgkgkngaaGreatDoorXG
import Derived.Test.YtodhnkfgkgkngaaGreatDoorXH
import Derived.Test.YtodhnkfgkgkngaaGreatDoorXJ
import Derived.Lay
set_option linter.defProp false
set_option linter.unusedSimpArgs false
set_option linter.unusedVariables false
set_option linter.unusedSectionVars false
namespace Go.AM
open Go.RowKit Go.ChangeShapes Go.WideShapes Go.ChangeAt Go.Deep Go.Proofs Go.Proofs.YtodhnkfgkgkngaaGreatDoor
namespace HiSwaps
set_option maxRecDepth 100000
def contract (H:Type)(enc:TypeId×Value->H)(W:World)(base:Nat)(args:Array Value)(ds gs:List (DataW H))(before:List MemPlace)
 (a:∀(j:Nat) t v,Tryz.f5.params[j]? = some t->args[j]? = some v->Value.okWide Tryz.prog W .any base t v)
 (r:DataW.Whole enc Tryz.prog Tryz.f5.params.toList Rows.historySwapsSpec.vars false W args.toList ds gs before) (hk:Rows.uptoSmall H (ds++gs)=true) (hL:laidMetH Tryz.prog Rows.historySwapsUptoRow.laid W) :
 Calls Tryz.prog 5 args W fun e W'=>∃v,e=.returned v/\Rows.historySwapsSpec.post enc Tryz.prog Tryz.f5 false true false false W args v W':=by
 have d:=r;obtain⟨p,q,f,u,rfl,w,x⟩:=r;have s:DataW.TrodAll enc Tryz.prog W 0 (fun _=>true) true Tryz.f5.params.toList args.toList ds p:=f;rw[Tryz.params5]at s a;obtain⟨v0,vs0,d0,ds0,p0,q0,g,rfl,rfl,y,r0⟩:=trodAll_cons s;obtain⟨v1,vs1,d1,ds1,p1,q1,rfl,rfl,rfl,h1,r1⟩:=trodAll_cons r0;obtain⟨v2,vs2,d2,ds2,p2,q2,rfl,rfl,rfl,z,r2⟩:=trodAll_cons r1;obtain⟨rfl,rfl,rfl⟩:=trodAll_nil r2;obtain rfl:args = #[v0,v1,v2]:=by cases args;simp_all
 obtain⟨rfl,rfl⟩:=trodVars_none u;have hb:=of_decide_eq_true hk;simp only[List.append_nil,Rows.uptoBulkAll]at hb;obtain⟨cs0,c,_⟩:=okWide_struct Tryz.underlying26 (a 0 26 v0 rfl rfl);obtain⟨_,l⟩:=okWide_int Tryz.underlying3 (a 1 3 v1 rfl rfl);obtain⟨_,m⟩:=okWide_int Tryz.underlying3 (a 2 3 v2 rfl rfl);obtain⟨fu0,g0⟩:=y;obtain⟨fu1,g1⟩:=h1;obtain⟨fu2,g2⟩:=z;have n:Yl Tryz.prog [26,22,48,3,9,23,57,54,51,49,4,52,27,55,114,24,58]=true:=by kernel_rfl
 have b:∀t∈([26,22,48,3,9,23,57,54,51,49,4,52,27,55,114,24,58]:List Nat),t<Tryz.prog.types.size:=by decide +kernel
 obtain⟨pv0,c0,sh0⟩:=GS YR YS n b fu0 26 _ _ (by simp) g0;obtain⟨x0,l0,w0,s0⟩:=Mg _ _ sh0;have s0:Z9 x0<=Rows.uptoBulk d0:=s0;have e0:=c0.leD l0;rw[c]at e0;have e0:=YT e0;rw[<- c]at e0;obtain⟨pv1,c1,sh1⟩:=GS YR YS n b fu1 3 _ _ (by simp) g1;obtain⟨x1,l1,w1,s1⟩:=N5 Tryz.underlying3 _ _ sh1;have s1:1<=Rows.uptoBulk d1:=s1;have e1:=Uu (by rw[l];rfl) (c1.leD l1);obtain⟨pv2,c2,sh2⟩:=GS YR YS n b fu2 3 _ _ (by simp) g2;obtain⟨x2,l2,w2,s2⟩:=N5 Tryz.underlying3 _ _ sh2;have s2:1<=Rows.uptoBulk d2:=s2;have e2:=Uu (by rw[m];rfl) (c2.leD l2);have hP:FunO (EM Tryz.prog) Y3 [.p (.agg (A2 x0)),.p (pI .i64 x1),.p (pI .i64 x2)] [] (.p (.bb true)) [] []:=
  FT (good _) libC (HS (N:=4194304) (by omega) SK (Uv w0 (by omega)) (Ir (by omega)).1 (Ir (h:=x0) (by omega)).2.1 (Ir (h:=x0) (by omega)).2.2 x1 x2)
 have hc:=Mh (args:=[.agg (A2 x0),pI .i64 x1,pI .i64 x2]) (enters_of Tryz.func5 (by decide +kernel) rfl) hP (W:=W) (vs:=#[v0,v1,v2]) (YU hL) rfl (fun i hi=>by
  match i,hi with
  |0,_=>exact e0
  |1,_=>exact e1
  |2,_=>exact e2
  )
 refine hc.mono fun e W' ⟨he,o⟩=>?_;subst he;exact⟨_,rfl,WD rfl (by kernel_rfl) Tryz.underlying4 (by kernel_rfl) (by rw[Tryz.params5];decide +kernel) d rfl o⟩
def own:ownKnob Tryz.prog.godebug=none:=by kernel_rfl
def reads (os:Os){H:Type}(enc:TypeId×Value->H):∃places,DataW.whole enc Tryz.prog ((World.laidAll Tryz.prog os Rows.historySwapsUptoRow.laid).forCall (fun _ _=>0) ⟨#[],#[.agg #[.slice none 0 0,.slice none 0 0,.slice none 0 0],.int .i64 0,.int .i64 0],[]⟩).memory Tryz.f5.params.toList Rows.historySwapsSpec.vars false (#[.agg #[.slice none 0 0,.slice none 0 0,.slice none 0 0],.int .i64 0,.int .i64 0]:Array Value).toList 16=some ([.agg [.nil,.nil,.nil],.lit (.int .i64 0),.lit (.int .i64 0)],[],places):=
 ⟨[],by kernel_rfl⟩
def laid_met (os:Os):laidMet Tryz.prog Rows.historySwapsUptoRow.laid ((World.laidAll Tryz.prog os Rows.historySwapsUptoRow.laid).forCall (fun _ _=>0) ⟨#[],#[.agg #[.slice none 0 0,.slice none 0 0,.slice none 0 0],.int .i64 0,.int .i64 0],[]⟩).memory:=
 laidMet_laidAll _ (by kernel_rfl) (by kernel_rfl)
def liftedUpto (os:Os)(started:os.Started)(H:Type)(enc:TypeId×Value->H)(F:Stop.Interp) :ReturnsInHanded {} Tryz.checked os 5 .any ((Rows.OpenSpec.upto Rows.historySwapsSpec).preRow enc Tryz.prog Tryz.f5 Rows.historySwapsUptoRow.domain false Rows.historySwapsUptoRow.laid) (((Rows.OpenSpec.upto Rows.historySwapsSpec).at F).post enc Tryz.prog Tryz.f5 false true false false):=by
 obtain⟨places,hx⟩:=reads os enc;refine returnsInHanded_of_row (C:=Tryz.checked) (s:=Rows.OpenSpec.upto Rows.historySwapsSpec) own started (by kernel_rfl) Tryz.func5
  (witness_row_at (enc:=enc) (C:=Tryz.checked) false (World.laidAll Tryz.prog os Rows.historySwapsUptoRow.laid) #[.agg #[.slice none 0 0,.slice none 0 0,.slice none 0 0],.int .i64 0,.int .i64 0] (World.laidAll_os _ _ _) (by kernel_rfl) (by kernel_rfl) (by kernel_rfl)
   (OpenSpec.preRow_of_cond 16 hx (by kernel_rfl) (fun k hk=>by cases hk;kernel_rfl) (by kernel_rfl) (laid_met os))) ?_
 intro W base args ds gs before b c _ a _ hL _ _;exact contract H enc W base args ds gs before b c (a _ rfl) hL
def gA:jA_ Tryz.pinned.checked.prog 5 Tryz.f5 (Rows.OpenSpec.upto Rows.historySwapsSpec).bare Rows.historySwapsUptoRow=true:=by kernel_rfl
def gB:jB_ Tryz.pinned.checked.prog 5 Tryz.f5 (Rows.OpenSpec.upto Rows.historySwapsSpec).bare Rows.historySwapsUptoRow=true:=by kernel_rfl
def gC:jC_ Tryz.pinned.checked.prog 5 Tryz.f5 (Rows.OpenSpec.upto Rows.historySwapsSpec).bare Rows.historySwapsUptoRow=true:=by kernel_rfl
def gD:jD_ Tryz.pinned.checked.prog 5 Tryz.f5 (Rows.OpenSpec.upto Rows.historySwapsSpec).bare Rows.historySwapsUptoRow=true:=by kernel_rfl
def gE:jE_ Tryz.pinned.checked.prog 5 Tryz.f5 (Rows.OpenSpec.upto Rows.historySwapsSpec).bare Rows.historySwapsUptoRow=true:=by kernel_rfl
def gF:jF_ Tryz.pinned.checked.prog 5 Tryz.f5 (Rows.OpenSpec.upto Rows.historySwapsSpec).bare Rows.historySwapsUptoRow=true:=by kernel_rfl
def saidUpto:Rows.HistorySwapsUptoSaid:=
 OpenClaim.holds_of_cond 5 Tryz.f5 rfl rfl rfl rfl rfl rfl rfl ⟨rfl,rfl,rfl,rfl,rfl⟩ rfl rfl rfl rfl rfl (by kernel_rfl) Tryz.func5 (Uw gA gB gC gD gE gF)
  (of_decide_eq_true (by kernel_rfl)) (by unfold Func.isWrapper;first|(rw[Jl (by decide +kernel)];kernel_rfl)|(rw[Jm (by decide +kernel)];exact⟨rfl,rfl⟩))
  (fun os started H enc _ F=>by rw[OpenClaim.pre_eq_preRow];exact liftedUpto os started H enc F)
def plain (f:FuncId)(fn:Func)(b:Tryz.pinned.checked.prog.funcNamed "ablaut/ablautlaw25.HistorySwaps" = some f)(a:Tryz.pinned.checked.prog.funcs[f]? = some fn) :true=Tryz.pinned.checked.prog.looks []/\∀(j:Nat) t,fn.params[j]? = some t->Tryz.pinned.checked.prog.wantsStandIn t=false:=by
 obtain rfl:f=5:=Option.some.inj ((show Tryz.prog.funcNamed "ablaut/ablautlaw25.HistorySwaps" = some 5 by kernel_rfl).symm.trans b) |>.symm;obtain rfl:fn=Tryz.f5:=(Option.some.inj (Tryz.func5.symm.trans a)).symm;refine⟨by kernel_rfl,fun j t ht=>?_⟩;rw[Tryz.params5]at ht;have hm:=Array.mem_of_getElem? ht;simp only[List.mem_toArray,List.mem_cons,List.not_mem_nil,or_false]at hm;rcases hm with rfl|rfl|rfl
 .exact (show Tryz.prog.wantsStandIn 26=false by kernel_rfl)
 .exact (show Tryz.prog.wantsStandIn 3=false by kernel_rfl)
 exact (show Tryz.prog.wantsStandIn 3=false by kernel_rfl)
def cardUpto:Rows.HistorySwapsUptoCardSaid:=
 Claim7.holds_tied_plain_at .later [] _ _ _ _ saidUpto (fun _ h=>by cases h) (by kernel_rfl) (fun _ h=>by cases h) historySwapsUpto_row_tie rfl ⟨rfl,rfl⟩ (by kernel_rfl) rfl plain (by kernel_rfl)
end HiSwaps
end Go.AM
