/- Part 13. -/
import Derived.Test.YtcoileenpgjmoaaGreatDoorEK
import Derived.Test.YtcoileenpgjmoaaGreatDoorEI
import Derived.Test.YtcoileenpgjmoaaGreatDoorEJ
import Derived.Test.YtcoileenpgjmoaaGreatDoorEH
import Derived.Test.YtcoileenpgjmoaaGreatDoorEL
import Derived.Lay
set_option linter.defProp false
set_option linter.unusedSimpArgs false
set_option linter.unusedVariables false
set_option linter.unusedSectionVars false
namespace Go.AM
def BA7:=@Go.Proofs.Tryz.params4
open Go.RowKit Go.ChangeShapes Go.WideShapes Go.ChangeAt Go.Deep Go.Proofs Go.Proofs.YtcoileenpgjmoaaGreatDoor
namespace PrExc
set_option maxRecDepth 100000
def contract (H:Type)(enc:TypeId×Value->H)(W:World)(base:Nat)(args:Array Value)(ds gs:List (DataW H))(before:List MemPlace)
 (a:∀(j:Nat) t v,Tryz.f4.params[j]? = some t->args[j]? = some v->Value.okWide Tryz.prog W .any base t v)
 (r:DataW.Whole enc Tryz.prog Tryz.f4.params.toList Rows.proofExceptionsSpec.vars false W args.toList ds gs before) (hk:Rows.uptoSmall H (ds++gs)=true) (hL:laidMetH Tryz.prog Rows.proofExceptionsUptoRow.laid W) :
 Calls Tryz.prog 4 args W λe W'=>∃v,e=.returned v/\Rows.proofExceptionsSpec.post enc Tryz.prog Tryz.f4 false true false false W args v W':=by
 have d:=r;obtain⟨p,q,f,u,rfl,w,x⟩:=r;have s:DataW.TrodAll enc Tryz.prog W 0 (λ_=>true) true Tryz.f4.params.toList args.toList ds p:=f;rw[BA7]at s a;obtain⟨v0,vs0,d0,ds0,p0,q0,g,rfl,rfl,y,r0⟩:=trodAll_cons s;obtain⟨v1,vs1,d1,ds1,p1,q1,rfl,rfl,rfl,h1,r1⟩:=trodAll_cons r0;obtain⟨v2,vs2,d2,ds2,p2,q2,rfl,rfl,rfl,z,r2⟩:=trodAll_cons r1;obtain⟨rfl,rfl,rfl⟩:=trodAll_nil r2;obtain rfl:args = #[v0,v1,v2]:=by cases args;simp_all
 obtain⟨rfl,rfl⟩:=trodVars_none u;have hb:=of_decide_eq_true hk;simp only[Bl8,Rows.uptoBulkAll]at hb;obtain⟨cs0,c,_⟩:=okWide_struct Tryz.underlying29 (a 0 29 v0 rfl rfl);obtain⟨_,l⟩:=okWide_int Bw1 (a 1 30 v1 rfl rfl);obtain⟨_,m⟩:=okWide_int Bp5 (a 2 5 v2 rfl rfl);obtain⟨fu0,g0⟩:=y;obtain⟨fu1,g1⟩:=h1;obtain⟨fu2,g2⟩:=z;have n:AH0 Tryz.prog [29,26,22,5,23,137,9,134,3,117,87,4,132,64,135,186,24,30,27]=true:=by kernel_rfl
 have b:∀t∈([29,26,22,5,23,137,9,134,3,117,87,4,132,64,135,186,24,30,27]:List Nat),t<Tryz.prog.types.size:=by decide +kernel
 obtain⟨pv0,c0,sh0⟩:=LK AL3 AL4 n b fu0 29 _ _ (by simp) g0;obtain⟨x0,l0,w0,s0⟩:=ZT _ _ sh0;have s0:NV x0<=Rows.uptoBulk d0:=s0;have e0:=c0.leD l0;rw[c]at e0;have e0:=AL5 e0;rw[<- c]at e0;obtain⟨pv1,c1,sh1⟩:=LK AL3 AL4 n b fu1 30 _ _ (by simp) g1;obtain⟨x1,l1,w1,s1⟩:=S3 Bw1 _ _ sh1;have s1:1<=Rows.uptoBulk d1:=s1;have e1:=Ag7 (by rw[l];rfl) (c1.leD l1);obtain⟨pv2,c2,sh2⟩:=LK AL3 AL4 n b fu2 5 _ _ (by simp) g2;obtain⟨x2,l2,w2,s2⟩:=S3 Bp5 _ _ sh2;have s2:1<=Rows.uptoBulk d2:=s2;have e2:=Ag7 (by rw[m];rfl) (c2.leD l2);have hP:Me (Ge Tryz.prog) Ap [.p (.agg (FF x0)),.p (pI .u16 x1),.p (pI .u8 x2)] [] (.p (.bb true)) [] []:=
  HQ (AL6 _) libC (JT (Ag8 w0 (by omega)) (AH1 w1) (AV8 w2))
 have hc:=Sc (args:=[.agg (FF x0),pI .u16 x1,pI .u8 x2]) (enters_of Tryz.func4 (by decide +kernel) rfl) hP (W:=W) (vs:=#[v0,v1,v2]) (AV9 (by kernel_rfl) (by kernel_rfl) (by kernel_rfl) hL) rfl (λi hi=>by
  match i,hi with
  |0,_=>exact e0
  |1,_=>exact e1
  |2,_=>exact e2
  )
 refine hc.mono λe W' ⟨he,o⟩=>?_;subst he;exact⟨_,rfl,Au3 rfl (by kernel_rfl) Bq2 (by kernel_rfl) (by rw[BA7];decide +kernel) d rfl o⟩
def own:ownKnob Tryz.prog.godebug=none:=by kernel_rfl
def reads (os:Os){H:Type}(enc:TypeId×Value->H):∃places,DataW.whole enc Tryz.prog ((World.laidAll Tryz.prog os Rows.proofExceptionsUptoRow.laid).forCall (λ_ _=>0) ⟨#[],#[.agg #[.slice none 0 0,.slice none 0 0,.slice none 0 0,.slice none 0 0],.int .u16 0,.int .u8 0],[]⟩).memory Tryz.f4.params.toList Rows.proofExceptionsSpec.vars false (#[.agg #[.slice none 0 0,.slice none 0 0,.slice none 0 0,.slice none 0 0],.int .u16 0,.int .u8 0]:Array Value).toList 16=some ([.agg [.agg [.nil,.nil,.nil],.nil],.lit (.int .u16 0),.lit (.int .u8 0)],[],places):=
 ⟨[],by kernel_rfl⟩
def laid_met (os:Os):laidMet Tryz.prog Rows.proofExceptionsUptoRow.laid ((World.laidAll Tryz.prog os Rows.proofExceptionsUptoRow.laid).forCall (λ_ _=>0) ⟨#[],#[.agg #[.slice none 0 0,.slice none 0 0,.slice none 0 0,.slice none 0 0],.int .u16 0,.int .u8 0],[]⟩).memory:=
 laidMet_laidAll _ (by kernel_rfl) (by kernel_rfl)
def liftedUpto (os:Os)(started:os.Started)(H:Type)(enc:TypeId×Value->H)(F:Stop.Interp) :ReturnsInHanded {} Tryz.checked os 4 .any ((Rows.OpenSpec.upto Rows.proofExceptionsSpec).preRow enc Tryz.prog Tryz.f4 Rows.proofExceptionsUptoRow.domain false Rows.proofExceptionsUptoRow.laid) (((Rows.OpenSpec.upto Rows.proofExceptionsSpec).at F).post enc Tryz.prog Tryz.f4 false true false false):=by
 obtain⟨places,hx⟩:=reads os enc;refine returnsInHanded_of_row (C:=Tryz.checked) (s:=Rows.OpenSpec.upto Rows.proofExceptionsSpec) own started (by kernel_rfl) Tryz.func4
  (witness_row_at (enc:=enc) (C:=Tryz.checked) false (World.laidAll Tryz.prog os Rows.proofExceptionsUptoRow.laid) #[.agg #[.slice none 0 0,.slice none 0 0,.slice none 0 0,.slice none 0 0],.int .u16 0,.int .u8 0] (World.laidAll_os _ _ _) (by kernel_rfl) (by kernel_rfl) (by kernel_rfl)
   (OpenSpec.preRow_of_cond 16 hx (by kernel_rfl) (λk hk=>by cases hk;kernel_rfl) (by kernel_rfl) (laid_met os))) ?_
 intro W base args ds gs before b c _ a _ hL _ _;exact contract H enc W base args ds gs before b c (a _ rfl) hL
def gA:jA_ Tryz.pinned.checked.prog 4 Tryz.f4 (Rows.OpenSpec.upto Rows.proofExceptionsSpec).bare Rows.proofExceptionsUptoRow=true:=by kernel_rfl
def gB:jB_ Tryz.pinned.checked.prog 4 Tryz.f4 (Rows.OpenSpec.upto Rows.proofExceptionsSpec).bare Rows.proofExceptionsUptoRow=true:=by kernel_rfl
def gC:jC_ Tryz.pinned.checked.prog 4 Tryz.f4 (Rows.OpenSpec.upto Rows.proofExceptionsSpec).bare Rows.proofExceptionsUptoRow=true:=by kernel_rfl
def gD:jD_ Tryz.pinned.checked.prog 4 Tryz.f4 (Rows.OpenSpec.upto Rows.proofExceptionsSpec).bare Rows.proofExceptionsUptoRow=true:=by kernel_rfl
def gE:jE_ Tryz.pinned.checked.prog 4 Tryz.f4 (Rows.OpenSpec.upto Rows.proofExceptionsSpec).bare Rows.proofExceptionsUptoRow=true:=by kernel_rfl
def gF:jF_ Tryz.pinned.checked.prog 4 Tryz.f4 (Rows.OpenSpec.upto Rows.proofExceptionsSpec).bare Rows.proofExceptionsUptoRow=true:=by kernel_rfl
def saidUpto:Rows.ProofExceptionsUptoSaid:=
 OpenClaim.holds_of_cond 4 Tryz.f4 rfl rfl rfl rfl rfl rfl rfl ⟨rfl,rfl,rfl,rfl,rfl⟩ rfl rfl rfl rfl rfl (by kernel_rfl) Tryz.func4 (Ag9 gA gB gC gD gE gF)
  (of_decide_eq_true (by kernel_rfl)) (by unfold Func.isWrapper;first|(rw[Ek (by decide +kernel)];kernel_rfl)|(rw[Et (by decide +kernel)];exact⟨rfl,rfl⟩))
  (λos started H enc _ F=>by rw[OpenClaim.pre_eq_preRow];exact liftedUpto os started H enc F)
def plain (f:FuncId)(fn:Func)(b:Tryz.pinned.checked.prog.funcNamed "ablaut/ablautlaw45.ProofExceptions" = some f)(a:Tryz.pinned.checked.prog.funcs[f]? = some fn) :true=Tryz.pinned.checked.prog.looks []/\∀(j:Nat) t,fn.params[j]? = some t->Tryz.pinned.checked.prog.wantsStandIn t=false:=by
 obtain rfl:f=4:=Bl3 ((show Tryz.prog.funcNamed "ablaut/ablautlaw45.ProofExceptions" = some 4 by kernel_rfl).symm.trans b) |>.symm;obtain rfl:fn=Tryz.f4:=(Bl3 (Tryz.func4.symm.trans a)).symm;refine⟨by kernel_rfl,λj t ht=>?_⟩;rw[BA7]at ht;have hm:=By0 ht;simp only[List.mem_toArray,Bi4,List.not_mem_nil,or_false]at hm;rcases hm with rfl|rfl|rfl
 .exact (show Tryz.prog.wantsStandIn 29=false by kernel_rfl)
 .exact (show Tryz.prog.wantsStandIn 30=false by kernel_rfl)
 exact (show Tryz.prog.wantsStandIn 5=false by kernel_rfl)
def cardUpto:Rows.ProofExceptionsUptoCardSaid:=
 Claim7.holds_tied_plain_at .later [] _ _ _ _ saidUpto (λ_ h=>by cases h) (by kernel_rfl) (λ_ h=>by cases h) proofExceptionsUpto_row_tie rfl ⟨rfl,rfl⟩ (by kernel_rfl) rfl plain (by kernel_rfl)
end PrExc
end Go.AM
