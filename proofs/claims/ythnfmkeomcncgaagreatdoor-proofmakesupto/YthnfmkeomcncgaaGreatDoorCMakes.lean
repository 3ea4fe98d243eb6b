/- Part 9. -/
import Derived.Test.YthnfmkeomcncgaaGreatDoorMG
import Derived.Test.YthnfmkeomcncgaaGreatDoorME
import Derived.Test.YthnfmkeomcncgaaGreatDoorMF
import Derived.Test.YthnfmkeomcncgaaGreatDoorMH
import Derived.Lay
set_option linter.defProp false
set_option linter.unusedSimpArgs false
set_option linter.unusedVariables false
set_option linter.unusedSectionVars false
namespace Go.AM
def Cs9:=@Go.Proofs.Tryz.underlying2
def Cv7:=@Go.Proofs.Tryz.params3
open Go.RowKit Go.ChangeShapes Go.WideShapes Go.ChangeAt Go.Deep Go.Proofs Go.Proofs.YthnfmkeomcncgaaGreatDoor
namespace PrMakes
set_option maxRecDepth 100000
def contract (H:Type)(enc:TypeId×Value->H)(W:World)(base:Nat)(args:Array Value)(ds gs:List (DataW H))(before:List MemPlace)
 (a:∀(j:Nat) t v,Tryz.f3.params[j]? = some t->args[j]? = some v->Value.okWide Tryz.prog W .any base t v)
 (n:DataW.Whole enc Tryz.prog Tryz.f3.params.toList Rows.proofMakesSpec.vars false W args.toList ds gs before) (hk:Rows.uptoSmall H (ds++gs)=true) (hL:laidMetH Tryz.prog Rows.proofMakesUptoRow.laid W) :
 Calls Tryz.prog 3 args W λe W'=>∃v,e=.returned v/\Rows.proofMakesSpec.post enc Tryz.prog Tryz.f3 false true false false W args v W':=by
 have d:=n;obtain⟨p,q,f,s,rfl,u,w⟩:=n;have o:DataW.TrodAll enc Tryz.prog W 0 (λ_=>true) true Tryz.f3.params.toList args.toList ds p:=f;rw[Cv7]at o a;obtain⟨v0,vs0,d0,ds0,p0,q0,g,rfl,rfl,x,r0⟩:=trodAll_cons o;obtain⟨v1,vs1,d1,ds1,p1,q1,rfl,rfl,rfl,h1,r1⟩:=trodAll_cons r0;obtain⟨rfl,rfl,rfl⟩:=trodAll_nil r1;obtain rfl:args = #[v0,v1]:=by cases args;simp_all
 obtain⟨rfl,rfl⟩:=trodVars_none s;have hb:=of_decide_eq_true hk;simp only[Cg4,Rows.uptoBulkAll]at hb;obtain⟨cs0,b,_⟩:=okWide_struct Tryz.underlying33 (a 0 33 v0 rfl rfl);obtain⟨_,l⟩:=okWide_int Cs9 (a 1 2 v1 rfl rfl);obtain⟨fu0,g0⟩:=x;obtain⟨fu1,g1⟩:=h1;have r:BB2 Tryz.prog [33,22,9,23,108,95,93,24,224,29,25,131,3,26,101,98,4,96,67,99,173,27,74,30,92,31,56,2]=true:=by kernel_rfl
 have c:∀t∈([33,22,9,23,108,95,93,24,224,29,25,131,3,26,101,98,4,96,67,99,173,27,74,30,92,31,56,2]:List Nat),t<Tryz.prog.types.size:=by decide +kernel
 obtain⟨pv0,c0,sh0⟩:=Vl BS9 BT0 r c fu0 33 _ _ (by simp) g0;obtain⟨x0,l0,w0,s0⟩:=Xb _ _ sh0;have s0:Ho x0<=Rows.uptoBulk d0:=s0;have e0:=c0.leD l0;rw[b]at e0;have e0:=BG3 e0;rw[<- b]at e0;obtain⟨pv1,c1,sh1⟩:=Vl BS9 BT0 r c fu1 2 _ _ (by simp) g1;obtain⟨x1,l1,w1,s1⟩:=V9 Cs9 _ _ sh1;have s1:1<=Rows.uptoBulk d1:=s1;have e1:=BG4 (by rw[l];rfl) (c1.leD l1);have y:Uw (Ia Tryz.prog) Fb [.p (.agg (B3 x0)),.p (pI .i64 x1)] [] (.p (.bb true)) [] []:=
  Qw (An8 _) libC (Ue (by omega) AK5 (AB9 w0 (by omega)).1 (AB9 w0 (by omega)).2 x1)
 have hc:=Xc (args:=[.agg (B3 x0),pI .i64 x1]) (enters_of Tryz.func3 (by decide +kernel) rfl) y (W:=W) (vs:=#[v0,v1]) (BT1 (by kernel_rfl) (by kernel_rfl) (by kernel_rfl) hL) rfl (λi z=>by
  match i,z with
  |0,_=>exact e0
  |1,_=>exact e1
  )
 refine hc.mono λe W' ⟨he,m⟩=>?_;subst he;exact⟨_,rfl,Bn8 rfl (by kernel_rfl) Cl3 (by kernel_rfl) (by rw[Cv7];decide +kernel) d rfl m⟩
def own:ownKnob Tryz.prog.godebug=none:=by kernel_rfl
def reads (os:Os){H:Type}(enc:TypeId×Value->H):∃places,DataW.whole enc Tryz.prog ((World.laidAll Tryz.prog os Rows.proofMakesUptoRow.laid).forCall (λ_ _=>0) ⟨#[],#[.agg #[.slice none 0 0,.slice none 0 0,.slice none 0 0,.slice none 0 0,.slice none 0 0,.slice none 0 0,.slice none 0 0,.slice none 0 0],.int .i64 0],[]⟩).memory Tryz.f3.params.toList Rows.proofMakesSpec.vars false (#[.agg #[.slice none 0 0,.slice none 0 0,.slice none 0 0,.slice none 0 0,.slice none 0 0,.slice none 0 0,.slice none 0 0,.slice none 0 0],.int .i64 0]:Array Value).toList 16=some ([.agg [.nil,.nil,.nil,.agg [.nil,.nil,.nil],.nil,.nil],.lit (.int .i64 0)],[],places):=
 ⟨[],by kernel_rfl⟩
def laid_met (os:Os):laidMet Tryz.prog Rows.proofMakesUptoRow.laid ((World.laidAll Tryz.prog os Rows.proofMakesUptoRow.laid).forCall (λ_ _=>0) ⟨#[],#[.agg #[.slice none 0 0,.slice none 0 0,.slice none 0 0,.slice none 0 0,.slice none 0 0,.slice none 0 0,.slice none 0 0,.slice none 0 0],.int .i64 0],[]⟩).memory:=
 laidMet_laidAll _ (by kernel_rfl) (by kernel_rfl)
def liftedUpto (os:Os)(started:os.Started)(H:Type)(enc:TypeId×Value->H)(F:Stop.Interp) :ReturnsInHanded {} Tryz.checked os 3 .any ((Rows.OpenSpec.upto Rows.proofMakesSpec).preRow enc Tryz.prog Tryz.f3 Rows.proofMakesUptoRow.domain false Rows.proofMakesUptoRow.laid) (((Rows.OpenSpec.upto Rows.proofMakesSpec).at F).post enc Tryz.prog Tryz.f3 false true false false):=by
 obtain⟨places,hx⟩:=reads os enc;refine returnsInHanded_of_row (C:=Tryz.checked) (s:=Rows.OpenSpec.upto Rows.proofMakesSpec) own started (by kernel_rfl) Tryz.func3
  (witness_row_at (enc:=enc) (C:=Tryz.checked) false (World.laidAll Tryz.prog os Rows.proofMakesUptoRow.laid) #[.agg #[.slice none 0 0,.slice none 0 0,.slice none 0 0,.slice none 0 0,.slice none 0 0,.slice none 0 0,.slice none 0 0,.slice none 0 0],.int .i64 0] (World.laidAll_os _ _ _) (by kernel_rfl) (by kernel_rfl) (by kernel_rfl)
   (OpenSpec.preRow_of_cond 16 hx (by kernel_rfl) (λk hk=>by cases hk;kernel_rfl) (by kernel_rfl) (laid_met os))) ?_
 intro W base args ds gs before b c _ a _ hL _ _;exact contract H enc W base args ds gs before b c (a _ rfl) hL
def gA:jA_ Tryz.pinned.checked.prog 3 Tryz.f3 (Rows.OpenSpec.upto Rows.proofMakesSpec).bare Rows.proofMakesUptoRow=true:=by kernel_rfl
def gB:jB_ Tryz.pinned.checked.prog 3 Tryz.f3 (Rows.OpenSpec.upto Rows.proofMakesSpec).bare Rows.proofMakesUptoRow=true:=by kernel_rfl
def gC:jC_ Tryz.pinned.checked.prog 3 Tryz.f3 (Rows.OpenSpec.upto Rows.proofMakesSpec).bare Rows.proofMakesUptoRow=true:=by kernel_rfl
def gD:jD_ Tryz.pinned.checked.prog 3 Tryz.f3 (Rows.OpenSpec.upto Rows.proofMakesSpec).bare Rows.proofMakesUptoRow=true:=by kernel_rfl
def gE:jE_ Tryz.pinned.checked.prog 3 Tryz.f3 (Rows.OpenSpec.upto Rows.proofMakesSpec).bare Rows.proofMakesUptoRow=true:=by kernel_rfl
def gF:jF_ Tryz.pinned.checked.prog 3 Tryz.f3 (Rows.OpenSpec.upto Rows.proofMakesSpec).bare Rows.proofMakesUptoRow=true:=by kernel_rfl
def saidUpto:Rows.ProofMakesUptoSaid:=
 OpenClaim.holds_of_cond 3 Tryz.f3 rfl rfl rfl rfl rfl rfl rfl ⟨rfl,rfl,rfl,rfl,rfl⟩ rfl rfl rfl rfl rfl (by kernel_rfl) Tryz.func3 (AX4 gA gB gC gD gE gF)
  (of_decide_eq_true (by kernel_rfl)) (by unfold Func.isWrapper;first|(rw[Jk (by decide +kernel)];kernel_rfl)|(rw[Js (by decide +kernel)];exact⟨rfl,rfl⟩))
  (λos started H enc _ F=>by rw[OpenClaim.pre_eq_preRow];exact liftedUpto os started H enc F)
def plain (f:FuncId)(fn:Func)(b:Tryz.pinned.checked.prog.funcNamed "ablaut/ablautlaw45.ProofMakes" = some f)(a:Tryz.pinned.checked.prog.funcs[f]? = some fn) :true=Tryz.pinned.checked.prog.looks []/\∀(j:Nat) t,fn.params[j]? = some t->Tryz.pinned.checked.prog.wantsStandIn t=false:=by
 obtain rfl:f=3:=Ci5 ((show Tryz.prog.funcNamed "ablaut/ablautlaw45.ProofMakes" = some 3 by kernel_rfl).symm.trans b) |>.symm;obtain rfl:fn=Tryz.f3:=(Ci5 (Tryz.func3.symm.trans a)).symm;refine⟨by kernel_rfl,λj t ht=>?_⟩;rw[Cv7]at ht;have hm:=Cu1 ht;simp only[List.mem_toArray,Ci2,List.not_mem_nil,or_false]at hm;rcases hm with rfl|rfl
 .exact (show Tryz.prog.wantsStandIn 33=false by kernel_rfl)
 exact (show Tryz.prog.wantsStandIn 2=false by kernel_rfl)
def cardUpto:Rows.ProofMakesUptoCardSaid:=
 Claim7.holds_tied_plain_at .later [] _ _ _ _ saidUpto (λ_ h=>by cases h) (by kernel_rfl) (λ_ h=>by cases h) proofMakesUpto_row_tie rfl ⟨rfl,rfl⟩ (by kernel_rfl) rfl plain (by kernel_rfl)
end PrMakes
end Go.AM
