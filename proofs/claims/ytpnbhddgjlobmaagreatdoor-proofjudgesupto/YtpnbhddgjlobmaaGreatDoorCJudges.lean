/- Part 9. -/
import Derived.Test.YtpnbhddgjlobmaaGreatDoorJG
import Derived.Test.YtpnbhddgjlobmaaGreatDoorJE
import Derived.Test.YtpnbhddgjlobmaaGreatDoorJF
import Derived.Test.YtpnbhddgjlobmaaGreatDoorJH
import Derived.Lay
set_option linter.defProp false
set_option linter.unusedSimpArgs false
set_option linter.unusedVariables false
set_option linter.unusedSectionVars false
namespace Go.AM
def CA0:=@Go.Proofs.Tryz.params3
open Go.RowKit Go.ChangeShapes Go.WideShapes Go.ChangeAt Go.Deep Go.Proofs Go.Proofs.YtpnbhddgjlobmaaGreatDoor
namespace PrJudges
set_option maxRecDepth 100000
def contract (H:Type)(enc:TypeId×Value->H)(W:World)(base:Nat)(args:Array Value)(ds gs:List (DataW H))(before:List MemPlace)
 (a:∀(j:Nat) t v,Tryz.f3.params[j]? = some t->args[j]? = some v->Value.okWide Tryz.prog W .any base t v)
 (s:DataW.Whole enc Tryz.prog Tryz.f3.params.toList Rows.proofJudgesSpec.vars false W args.toList ds gs before) (hk:Rows.uptoSmall H (ds++gs)=true) (hL:laidMetH Tryz.prog Rows.proofJudgesUptoRow.laid W) :
 Calls Tryz.prog 3 args W λe W'=>∃v,e=.returned v/\Rows.proofJudgesSpec.post enc Tryz.prog Tryz.f3 false true false false W args v W':=by
 have l:=s;obtain⟨p,q,m,w,rfl,x,y⟩:=s;have u:DataW.TrodAll enc Tryz.prog W 0 (λ_=>true) true Tryz.f3.params.toList args.toList ds p:=m;rw[CA0]at u a;obtain⟨v0,vs0,d0,ds0,p0,q0,n,rfl,rfl,z,r0⟩:=trodAll_cons u;obtain⟨v1,vs1,d1,ds1,p1,q1,rfl,rfl,rfl,h1,r1⟩:=trodAll_cons r0;obtain⟨v2,vs2,d2,ds2,p2,q2,rfl,rfl,rfl,h2,r2⟩:=trodAll_cons r1;obtain⟨v3,vs3,d3,ds3,p3,q3,rfl,rfl,rfl,h3,r3⟩:=trodAll_cons r2;obtain⟨rfl,rfl,rfl⟩:=trodAll_nil r3;obtain rfl:args = #[v0,v1,v2,v3]:=by cases args;simp_all
 obtain⟨rfl,rfl⟩:=trodVars_none w;have hb:=of_decide_eq_true hk;simp only[Ck9,Rows.uptoBulkAll]at hb;obtain⟨cs0,c,_⟩:=okWide_struct Tryz.underlying33 (a 0 33 v0 rfl rfl);obtain⟨_,o⟩:=okWide_int Cv3 (a 1 2 v1 rfl rfl);obtain⟨cs2,d,_⟩:=okWide_struct Tryz.underlying37 (a 2 37 v2 rfl rfl);obtain⟨cs3,f,_⟩:=okWide_struct Tryz.underlying39 (a 3 39 v3 rfl rfl);obtain⟨fu0,g0⟩:=z;obtain⟨fu1,g1⟩:=h1;obtain⟨fu2,g2⟩:=h2;obtain⟨fu3,g3⟩:=h3;have g:BF5 Tryz.prog [33,22,9,23,101,88,86,24,222,29,25,125,3,26,94,91,4,89,63,92,151,27,85,30,74,31,54,2,37,34,67,35,39]=true:=by kernel_rfl
 have b:∀t∈([33,22,9,23,101,88,86,24,222,29,25,125,3,26,94,91,4,89,63,92,151,27,85,30,74,31,54,2,37,34,67,35,39]:List Nat),t<Tryz.prog.types.size:=by decide +kernel
 obtain⟨pv0,c0,sh0⟩:=KT Br9 Bs0 g b fu0 33 _ _ (by simp) g0;obtain⟨x0,l0,w0,s0⟩:=Xt _ _ sh0;have s0:Hz x0<=Rows.uptoBulk d0:=s0;have e0:=c0.leD l0;rw[c]at e0;have e0:=Aq0 e0;rw[<- c]at e0;obtain⟨pv1,c1,sh1⟩:=KT Br9 Bs0 g b fu1 2 _ _ (by simp) g1;obtain⟨x1,l1,w1,s1⟩:=J2 Cv3 _ _ sh1;have s1:1<=Rows.uptoBulk d1:=s1;have e1:=BK8 (by rw[o];rfl) (c1.leD l1);obtain⟨pv2,c2,sh2⟩:=KT Br9 Bs0 g b fu2 37 _ _ (by simp) g2;obtain⟨x2,l2,w2,s2⟩:=Aq1 _ _ sh2;have s2:Xu x2<=Rows.uptoBulk d2:=s2;have e2:=c2.leD l2;rw[d]at e2;have e2:=Aq0 e2;rw[<- d]at e2;obtain⟨pv3,c3,sh3⟩:=KT Br9 Bs0 g b fu3 39 _ _ (by simp) g3;obtain⟨x3,l3,w3,s3⟩:=VA _ _ sh3;have s3:Rr x3<=Rows.uptoBulk d3:=s3;have e3:=c3.leD l3;rw[f]at e3;have e3:=Aq0 e3;rw[<- f]at e3;have hP:Yo (Im Tryz.prog) DZ [.p (.agg (B2 x0)),.p (pI .i64 x1),.p (.agg (Dv x2)),.p (.agg (N1 x3))] [] (.p (.bb true)) [] []:=
  OK (Aq2 _) libC (Rs (by omega) AN3 (AE6 w0 (by omega)).1 (AE6 w0 (by omega)).2 x1 x2 x3)
 have hc:=Xv (args:=[.agg (B2 x0),pI .i64 x1,.agg (Dv x2),.agg (N1 x3)]) (enters_of Tryz.func3 (by decide +kernel) rfl) hP (W:=W) (vs:=#[v0,v1,v2,v3]) (BX2 (by kernel_rfl) (by kernel_rfl) (by kernel_rfl) hL) rfl (λi hi=>by
  match i,hi with
  |0,_=>exact e0
  |1,_=>exact e1
  |2,_=>exact e2
  |3,_=>exact e3
  )
 refine hc.mono λe W' ⟨he,r⟩=>?_;subst he;exact⟨_,rfl,Bs1 rfl (by kernel_rfl) Cp7 (by kernel_rfl) (by rw[CA0];decide +kernel) l rfl r⟩
def own:ownKnob Tryz.prog.godebug=none:=by kernel_rfl
def reads (os:Os){H:Type}(enc:TypeId×Value->H):∃places,DataW.whole enc Tryz.prog ((World.laidAll Tryz.prog os Rows.proofJudgesUptoRow.laid).forCall (λ_ _=>0) ⟨#[],#[.agg #[.slice none 0 0,.slice none 0 0,.slice none 0 0,.slice none 0 0,.slice none 0 0,.slice none 0 0,.slice none 0 0,.slice none 0 0],.int .i64 0,.agg #[.slice none 0 0,.slice none 0 0],.agg #[.int .i64 0,.int .i64 0,.int .i64 0,.int .i64 0]],[]⟩).memory Tryz.f3.params.toList Rows.proofJudgesSpec.vars false (#[.agg #[.slice none 0 0,.slice none 0 0,.slice none 0 0,.slice none 0 0,.slice none 0 0,.slice none 0 0,.slice none 0 0,.slice none 0 0],.int .i64 0,.agg #[.slice none 0 0,.slice none 0 0],.agg #[.int .i64 0,.int .i64 0,.int .i64 0,.int .i64 0]]:Array Value).toList 16=some ([.agg [.nil,.nil,.nil,.agg [.nil,.nil,.nil],.nil,.nil],.lit (.int .i64 0),.agg [.nil,.nil],.agg [.lit (.int .i64 0),.lit (.int .i64 0),.lit (.int .i64 0),.lit (.int .i64 0)]],[],places):=
 ⟨[],by kernel_rfl⟩
def laid_met (os:Os):laidMet Tryz.prog Rows.proofJudgesUptoRow.laid ((World.laidAll Tryz.prog os Rows.proofJudgesUptoRow.laid).forCall (λ_ _=>0) ⟨#[],#[.agg #[.slice none 0 0,.slice none 0 0,.slice none 0 0,.slice none 0 0,.slice none 0 0,.slice none 0 0,.slice none 0 0,.slice none 0 0],.int .i64 0,.agg #[.slice none 0 0,.slice none 0 0],.agg #[.int .i64 0,.int .i64 0,.int .i64 0,.int .i64 0]],[]⟩).memory:=
 laidMet_laidAll _ (by kernel_rfl) (by kernel_rfl)
def liftedUpto (os:Os)(started:os.Started)(H:Type)(enc:TypeId×Value->H)(F:Stop.Interp) :ReturnsInHanded {} Tryz.checked os 3 .any ((Rows.OpenSpec.upto Rows.proofJudgesSpec).preRow enc Tryz.prog Tryz.f3 Rows.proofJudgesUptoRow.domain false Rows.proofJudgesUptoRow.laid) (((Rows.OpenSpec.upto Rows.proofJudgesSpec).at F).post enc Tryz.prog Tryz.f3 false true false false):=by
 obtain⟨places,hx⟩:=reads os enc;refine returnsInHanded_of_row (C:=Tryz.checked) (s:=Rows.OpenSpec.upto Rows.proofJudgesSpec) own started (by kernel_rfl) Tryz.func3
  (witness_row_at (enc:=enc) (C:=Tryz.checked) false (World.laidAll Tryz.prog os Rows.proofJudgesUptoRow.laid) #[.agg #[.slice none 0 0,.slice none 0 0,.slice none 0 0,.slice none 0 0,.slice none 0 0,.slice none 0 0,.slice none 0 0,.slice none 0 0],.int .i64 0,.agg #[.slice none 0 0,.slice none 0 0],.agg #[.int .i64 0,.int .i64 0,.int .i64 0,.int .i64 0]] (World.laidAll_os _ _ _) (by kernel_rfl) (by kernel_rfl) (by kernel_rfl)
   (OpenSpec.preRow_of_cond 16 hx (by kernel_rfl) (λk hk=>by cases hk;kernel_rfl) (by kernel_rfl) (laid_met os))) ?_
 intro W base args ds gs before b c _ a _ hL _ _;exact contract H enc W base args ds gs before b c (a _ rfl) hL
def gA:jA_ Tryz.pinned.checked.prog 3 Tryz.f3 (Rows.OpenSpec.upto Rows.proofJudgesSpec).bare Rows.proofJudgesUptoRow=true:=by kernel_rfl
def gB:jB_ Tryz.pinned.checked.prog 3 Tryz.f3 (Rows.OpenSpec.upto Rows.proofJudgesSpec).bare Rows.proofJudgesUptoRow=true:=by kernel_rfl
def gC:jC_ Tryz.pinned.checked.prog 3 Tryz.f3 (Rows.OpenSpec.upto Rows.proofJudgesSpec).bare Rows.proofJudgesUptoRow=true:=by kernel_rfl
def gD:jD_ Tryz.pinned.checked.prog 3 Tryz.f3 (Rows.OpenSpec.upto Rows.proofJudgesSpec).bare Rows.proofJudgesUptoRow=true:=by kernel_rfl
def gE:jE_ Tryz.pinned.checked.prog 3 Tryz.f3 (Rows.OpenSpec.upto Rows.proofJudgesSpec).bare Rows.proofJudgesUptoRow=true:=by kernel_rfl
def gF:jF_ Tryz.pinned.checked.prog 3 Tryz.f3 (Rows.OpenSpec.upto Rows.proofJudgesSpec).bare Rows.proofJudgesUptoRow=true:=by kernel_rfl
def saidUpto:Rows.ProofJudgesUptoSaid:=
 OpenClaim.holds_of_cond 3 Tryz.f3 rfl rfl rfl rfl rfl rfl rfl ⟨rfl,rfl,rfl,rfl,rfl⟩ rfl rfl rfl rfl rfl (by kernel_rfl) Tryz.func3 (Ba9 gA gB gC gD gE gF)
  (of_decide_eq_true (by kernel_rfl)) (by unfold Func.isWrapper;first|(rw[Kb (by decide +kernel)];kernel_rfl)|(rw[Kd (by decide +kernel)];exact⟨rfl,rfl⟩))
  (λos started H enc _ F=>by rw[OpenClaim.pre_eq_preRow];exact liftedUpto os started H enc F)
def plain (f:FuncId)(fn:Func)(b:Tryz.pinned.checked.prog.funcNamed "ablaut/ablautlaw45.ProofJudges" = some f)(a:Tryz.pinned.checked.prog.funcs[f]? = some fn) :true=Tryz.pinned.checked.prog.looks []/\∀(j:Nat) t,fn.params[j]? = some t->Tryz.pinned.checked.prog.wantsStandIn t=false:=by
 obtain rfl:f=3:=Cm9 ((show Tryz.prog.funcNamed "ablaut/ablautlaw45.ProofJudges" = some 3 by kernel_rfl).symm.trans b) |>.symm;obtain rfl:fn=Tryz.f3:=(Cm9 (Tryz.func3.symm.trans a)).symm;refine⟨by kernel_rfl,λj t ht=>?_⟩;rw[CA0]at ht;have hm:=Cy4 ht;simp only[List.mem_toArray,Cm6,List.not_mem_nil,or_false]at hm;rcases hm with rfl|rfl|rfl|rfl
 .exact (show Tryz.prog.wantsStandIn 33=false by kernel_rfl)
 .exact (show Tryz.prog.wantsStandIn 2=false by kernel_rfl)
 .exact (show Tryz.prog.wantsStandIn 37=false by kernel_rfl)
 exact (show Tryz.prog.wantsStandIn 39=false by kernel_rfl)
def cardUpto:Rows.ProofJudgesUptoCardSaid:=
 Claim7.holds_tied_plain_at .later [] _ _ _ _ saidUpto (λ_ h=>by cases h) (by kernel_rfl) (λ_ h=>by cases h) proofJudgesUpto_row_tie rfl ⟨rfl,rfl⟩ (by kernel_rfl) rfl plain (by kernel_rfl)
end PrJudges
end Go.AM
