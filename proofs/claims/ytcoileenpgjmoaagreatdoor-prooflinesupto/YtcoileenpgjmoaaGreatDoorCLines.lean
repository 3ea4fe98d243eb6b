/- Part 12. -/
import Derived.Test.YtcoileenpgjmoaaGreatDoorLJ
import Derived.Test.YtcoileenpgjmoaaGreatDoorLI
import Derived.Test.YtcoileenpgjmoaaGreatDoorLH
import Derived.Test.YtcoileenpgjmoaaGreatDoorLK
import Derived.Lay
set_option linter.defProp false
set_option linter.unusedSimpArgs false
set_option linter.unusedVariables false
set_option linter.unusedSectionVars false
namespace Go.AM
def BB3:=@Go.Proofs.Tryz.params6
open Go.RowKit Go.ChangeShapes Go.WideShapes Go.ChangeAt Go.Deep Go.Proofs Go.Proofs.YtcoileenpgjmoaaGreatDoor
namespace PrLines
set_option maxRecDepth 100000
def contract (H:Type)(enc:TypeId×Value->H)(W:World)(base:Nat)(args:Array Value)(ds gs:List (DataW H))(before:List MemPlace)
 (a:∀(j:Nat) t v,Tryz.f6.params[j]? = some t->args[j]? = some v->Value.okWide Tryz.prog W .any base t v)
 (n:DataW.Whole enc Tryz.prog Tryz.f6.params.toList Rows.proofLinesSpec.vars false W args.toList ds gs before) (hk:Rows.uptoSmall H (ds++gs)=true) (hL:laidMetH Tryz.prog Rows.proofLinesUptoRow.laid W) :
 Calls Tryz.prog 6 args W λe W'=>∃v,e=.returned v/\Rows.proofLinesSpec.post enc Tryz.prog Tryz.f6 false true false false W args v W':=by
 have d:=n;obtain⟨p,q,f,s,rfl,u,w⟩:=n;have o:DataW.TrodAll enc Tryz.prog W 0 (λ_=>true) true Tryz.f6.params.toList args.toList ds p:=f;rw[BB3]at o a;obtain⟨v0,vs0,d0,ds0,p0,q0,g,rfl,rfl,x,r0⟩:=trodAll_cons o;obtain⟨v1,vs1,d1,ds1,p1,q1,rfl,rfl,rfl,h1,r1⟩:=trodAll_cons r0;obtain⟨rfl,rfl,rfl⟩:=trodAll_nil r1;obtain rfl:args = #[v0,v1]:=by cases args;simp_all
 obtain⟨rfl,rfl⟩:=trodVars_none s;have hb:=of_decide_eq_true hk;simp only[Bn3,Rows.uptoBulkAll]at hb;obtain⟨cs0,b,_⟩:=okWide_struct Tryz.underlying29 (a 0 29 v0 rfl rfl);obtain⟨_,l⟩:=okWide_int Bw6 (a 1 30 v1 rfl rfl);obtain⟨fu0,g0⟩:=x;obtain⟨fu1,g1⟩:=h1;have r:AH4 Tryz.prog [29,26,22,5,23,137,9,134,3,117,87,4,132,64,135,186,24,30,27]=true:=by kernel_rfl
 have c:∀t∈([29,26,22,5,23,137,9,134,3,117,87,4,132,64,135,186,24,30,27]:List Nat),t<Tryz.prog.types.size:=by decide +kernel
 obtain⟨pv0,c0,sh0⟩:=QV AW4 AW5 r c fu0 29 _ _ (by simp) g0;obtain⟨x0,l0,w0,s0⟩:=ZP _ _ sh0;have s0:NO x0<=Rows.uptoBulk d0:=s0;have e0:=c0.leD l0;rw[b]at e0;have e0:=AL6 e0;rw[<- b]at e0;obtain⟨pv1,c1,sh1⟩:=QV AW4 AW5 r c fu1 30 _ _ (by simp) g1;obtain⟨x1,l1,w1,s1⟩:=T8 Bw6 _ _ sh1;have s1:1<=Rows.uptoBulk d1:=s1;have e1:=AL7 (by rw[l];rfl) (c1.leD l1);have y:Mb (Ge Tryz.prog) Ed [.p (.agg (FD x0)),.p (pI .u16 x1)] [] (.p (.bb true)) [] []:=
  Nd (good _) libC WD (PY (Ag5 w0 (by omega)) (AH5 w1))
 have hc:=RZ (args:=[.agg (FD x0),pI .u16 x1]) (enters_of Tryz.func6 (by decide +kernel) rfl) y (W:=W) (vs:=#[v0,v1]) (AW6 (by kernel_rfl) (by kernel_rfl) (by kernel_rfl) hL) rfl (λi z=>by
  match i,z with
  |0,_=>exact e0
  |1,_=>exact e1
  )
 refine hc.mono λe W' ⟨he,m⟩=>?_;subst he;exact⟨_,rfl,Au4 rfl (by kernel_rfl) Bq2 (by kernel_rfl) (by rw[BB3];decide +kernel) d rfl m⟩
def own:ownKnob Tryz.prog.godebug=none:=by kernel_rfl
def reads (os:Os){H:Type}(enc:TypeId×Value->H):∃places,DataW.whole enc Tryz.prog ((World.laidAll Tryz.prog os Rows.proofLinesUptoRow.laid).forCall (λ_ _=>0) ⟨#[],#[.agg #[.slice none 0 0,.slice none 0 0,.slice none 0 0,.slice none 0 0],.int .u16 0],[]⟩).memory Tryz.f6.params.toList Rows.proofLinesSpec.vars false (#[.agg #[.slice none 0 0,.slice none 0 0,.slice none 0 0,.slice none 0 0],.int .u16 0]:Array Value).toList 16=some ([.agg [.agg [.nil,.nil,.nil],.nil],.lit (.int .u16 0)],[],places):=
 ⟨[],by kernel_rfl⟩
def laid_met (os:Os):laidMet Tryz.prog Rows.proofLinesUptoRow.laid ((World.laidAll Tryz.prog os Rows.proofLinesUptoRow.laid).forCall (λ_ _=>0) ⟨#[],#[.agg #[.slice none 0 0,.slice none 0 0,.slice none 0 0,.slice none 0 0],.int .u16 0],[]⟩).memory:=
 laidMet_laidAll _ (by kernel_rfl) (by kernel_rfl)
def liftedUpto (os:Os)(started:os.Started)(H:Type)(enc:TypeId×Value->H)(F:Stop.Interp) :ReturnsInHanded {} Tryz.checked os 6 .any ((Rows.OpenSpec.upto Rows.proofLinesSpec).preRow enc Tryz.prog Tryz.f6 Rows.proofLinesUptoRow.domain false Rows.proofLinesUptoRow.laid) (((Rows.OpenSpec.upto Rows.proofLinesSpec).at F).post enc Tryz.prog Tryz.f6 false true false false):=by
 obtain⟨places,hx⟩:=reads os enc;refine returnsInHanded_of_row (C:=Tryz.checked) (s:=Rows.OpenSpec.upto Rows.proofLinesSpec) own started (by kernel_rfl) Tryz.func6
  (witness_row_at (enc:=enc) (C:=Tryz.checked) false (World.laidAll Tryz.prog os Rows.proofLinesUptoRow.laid) #[.agg #[.slice none 0 0,.slice none 0 0,.slice none 0 0,.slice none 0 0],.int .u16 0] (World.laidAll_os _ _ _) (by kernel_rfl) (by kernel_rfl) (by kernel_rfl)
   (OpenSpec.preRow_of_cond 16 hx (by kernel_rfl) (λk hk=>by cases hk;kernel_rfl) (by kernel_rfl) (laid_met os))) ?_
 intro W base args ds gs before b c _ a _ hL _ _;exact contract H enc W base args ds gs before b c (a _ rfl) hL
def gA:jA_ Tryz.pinned.checked.prog 6 Tryz.f6 (Rows.OpenSpec.upto Rows.proofLinesSpec).bare Rows.proofLinesUptoRow=true:=by kernel_rfl
def gB:jB_ Tryz.pinned.checked.prog 6 Tryz.f6 (Rows.OpenSpec.upto Rows.proofLinesSpec).bare Rows.proofLinesUptoRow=true:=by kernel_rfl
def gC:jC_ Tryz.pinned.checked.prog 6 Tryz.f6 (Rows.OpenSpec.upto Rows.proofLinesSpec).bare Rows.proofLinesUptoRow=true:=by kernel_rfl
def gD:jD_ Tryz.pinned.checked.prog 6 Tryz.f6 (Rows.OpenSpec.upto Rows.proofLinesSpec).bare Rows.proofLinesUptoRow=true:=by kernel_rfl
def gE:jE_ Tryz.pinned.checked.prog 6 Tryz.f6 (Rows.OpenSpec.upto Rows.proofLinesSpec).bare Rows.proofLinesUptoRow=true:=by kernel_rfl
def gF:jF_ Tryz.pinned.checked.prog 6 Tryz.f6 (Rows.OpenSpec.upto Rows.proofLinesSpec).bare Rows.proofLinesUptoRow=true:=by kernel_rfl
def saidUpto:Rows.ProofLinesUptoSaid:=
 OpenClaim.holds_of_cond 6 Tryz.f6 rfl rfl rfl rfl rfl rfl rfl ⟨rfl,rfl,rfl,rfl,rfl⟩ rfl rfl rfl rfl rfl (by kernel_rfl) Tryz.func6 (Ag6 gA gB gC gD gE gF)
  (of_decide_eq_true (by kernel_rfl)) (by unfold Func.isWrapper;first|(rw[Ej (by decide +kernel)];kernel_rfl)|(rw[Er (by decide +kernel)];exact⟨rfl,rfl⟩))
  (λos started H enc _ F=>by rw[OpenClaim.pre_eq_preRow];exact liftedUpto os started H enc F)
def plain (f:FuncId)(fn:Func)(b:Tryz.pinned.checked.prog.funcNamed "ablaut/ablautlaw45.ProofLines" = some f)(a:Tryz.pinned.checked.prog.funcs[f]? = some fn) :true=Tryz.pinned.checked.prog.looks []/\∀(j:Nat) t,fn.params[j]? = some t->Tryz.pinned.checked.prog.wantsStandIn t=false:=by
 obtain rfl:f=6:=Bn7 ((show Tryz.prog.funcNamed "ablaut/ablautlaw45.ProofLines" = some 6 by kernel_rfl).symm.trans b) |>.symm;obtain rfl:fn=Tryz.f6:=(Bn7 (Tryz.func6.symm.trans a)).symm;refine⟨by kernel_rfl,λj t ht=>?_⟩;rw[BB3]at ht;have hm:=By7 ht;simp only[List.mem_toArray,Bj7,Bx9,or_false]at hm;rcases hm with rfl|rfl
 .exact (show Tryz.prog.wantsStandIn 29=false by kernel_rfl)
 exact (show Tryz.prog.wantsStandIn 30=false by kernel_rfl)
def cardUpto:Rows.ProofLinesUptoCardSaid:=
 Claim7.holds_tied_plain_at .later [] _ _ _ _ saidUpto (λ_ h=>by cases h) (by kernel_rfl) (λ_ h=>by cases h) proofLinesUpto_row_tie rfl ⟨rfl,rfl⟩ (by kernel_rfl) rfl plain (by kernel_rfl)
end PrLines
end Go.AM
