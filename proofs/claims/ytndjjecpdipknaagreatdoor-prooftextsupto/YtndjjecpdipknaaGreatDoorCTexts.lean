/- Part 12. -/
import Derived.Test.YtndjjecpdipknaaGreatDoorWJ
import Derived.Test.YtndjjecpdipknaaGreatDoorWH
import Derived.Test.YtndjjecpdipknaaGreatDoorWK
import Derived.Lay
set_option linter.defProp false
set_option linter.unusedSimpArgs false
set_option linter.unusedVariables false
set_option linter.unusedSectionVars false
namespace Go.AM
def BI1:=@Go.Proofs.Tryz.underlying5
def BR5:=@Go.Proofs.Tryz.params3
open Go.RowKit Go.ChangeShapes Go.WideShapes Go.ChangeAt Go.Deep Go.Proofs Go.Proofs.YtndjjecpdipknaaGreatDoor
namespace PrTexts
set_option maxRecDepth 100000
def contract (H:Type)(enc:TypeId×Value->H)(W:World)(base:Nat)(args:Array Value)(ds gs:List (DataW H))(before:List MemPlace)
 (a:∀(j:Nat) t v,Tryz.f3.params[j]? = some t->args[j]? = some v->Value.okWide Tryz.prog W .any base t v)
 (r:DataW.Whole enc Tryz.prog Tryz.f3.params.toList Rows.proofTextsSpec.vars false W args.toList ds gs before) (hk:Rows.uptoSmall H (ds++gs)=true) (hL:laidMetH Tryz.prog Rows.proofTextsUptoRow.laid W) :
 Calls Tryz.prog 3 args W λe W'=>∃v,e=.returned v/\Rows.proofTextsSpec.post enc Tryz.prog Tryz.f3 false true false false W args v W':=by
 have f:=r;obtain⟨p,q,g,u,rfl,w,x⟩:=r;have s:DataW.TrodAll enc Tryz.prog W 0 (λ_=>true) true Tryz.f3.params.toList args.toList ds p:=g;rw[BR5]at s a;obtain⟨v0,vs0,d0,ds0,p0,q0,l,rfl,rfl,y,r0⟩:=trodAll_cons s;obtain⟨v1,vs1,d1,ds1,p1,q1,rfl,rfl,rfl,h1,r1⟩:=trodAll_cons r0;obtain⟨v2,vs2,d2,ds2,p2,q2,rfl,rfl,rfl,z,r2⟩:=trodAll_cons r1;obtain⟨rfl,rfl,rfl⟩:=trodAll_nil r2;obtain rfl:args = #[v0,v1,v2]:=by cases args;simp_all
 obtain⟨rfl,rfl⟩:=trodVars_none u;have hb:=of_decide_eq_true hk;simp only[BC4,Rows.uptoBulkAll]at hb;obtain⟨cs0,c,_⟩:=okWide_struct Tryz.underlying33 (a 0 33 v0 rfl rfl);obtain⟨cs1,d,_⟩:=okWide_struct Tryz.underlying37 (a 1 37 v1 rfl rfl);obtain⟨_,m⟩:=okWide_int BI1 (a 2 5 v2 rfl rfl);obtain⟨fu0,g0⟩:=y;obtain⟨fu1,g1⟩:=h1;obtain⟨fu2,g2⟩:=z;have n:AX8 Tryz.prog [33,22,9,23,112,92,90,24,216,29,25,86,3,26,98,95,4,93,62,96,148,27,70,30,107,31,49,37,34,66,2,35,58,5]=true:=by kernel_rfl
 have b:∀t∈([33,22,9,23,112,92,90,24,216,29,25,86,3,26,98,95,4,93,62,96,148,27,70,30,107,31,49,37,34,66,2,35,58,5]:List Nat),t<Tryz.prog.types.size:=by decide +kernel
 obtain⟨pv0,c0,sh0⟩:=MQ Bc2 Bc3 n b fu0 33 _ _ (by simp) g0;obtain⟨x0,l0,w0,s0⟩:=Um _ _ sh0;have s0:Gi x0<=Rows.uptoBulk d0:=s0;have e0:=c0.leD l0;rw[c]at e0;have e0:=Ay6 e0;rw[<- c]at e0;obtain⟨pv1,c1,sh1⟩:=MQ Bc2 Bc3 n b fu1 37 _ _ (by simp) g1;obtain⟨x1,l1,w1,s1⟩:=Zl _ _ sh1;have s1:Un x1<=Rows.uptoBulk d1:=s1;have e1:=c1.leD l1;rw[d]at e1;have e1:=Ay6 e1;rw[<- d]at e1;obtain⟨pv2,c2,sh2⟩:=MQ Bc2 Bc3 n b fu2 5 _ _ (by simp) g2;obtain⟨x2,l2,w2,s2⟩:=I3 BI1 _ _ sh2;have s2:1<=Rows.uptoBulk d2:=s2;have e2:=Bc4 (by rw[m];rfl) (c2.leD l2);have hP:Sb (Gj Tryz.prog) DN [.p (.agg (A7 x0)),.p (.agg (FM x1)),.p (pI .u8 x2)] [] (.p (.bb true)) [] []:=
  Oy (Ah5 _) libC (RJ (by omega) Ao6 (Ah6 w0 (by omega)).1 (Ah6 w0 (by omega)).2 (Bm9 w1) x2)
 have hc:=Uo (args:=[.agg (A7 x0),.agg (FM x1),pI .u8 x2]) (enters_of Tryz.func3 (by decide +kernel) rfl) hP (W:=W) (vs:=#[v0,v1,v2]) (Bn0 (by kernel_rfl) (by kernel_rfl) (by kernel_rfl) hL) rfl (λi hi=>by
  match i,hi with
  |0,_=>exact e0
  |1,_=>exact e1
  |2,_=>exact e2
  )
 refine hc.mono λe W' ⟨he,o⟩=>?_;subst he;exact⟨_,rfl,AM8 rfl (by kernel_rfl) BH4 (by kernel_rfl) (by rw[BR5];decide +kernel) f rfl o⟩
def own:ownKnob Tryz.prog.godebug=none:=by kernel_rfl
def reads (os:Os){H:Type}(enc:TypeId×Value->H):∃places,DataW.whole enc Tryz.prog ((World.laidAll Tryz.prog os Rows.proofTextsUptoRow.laid).forCall (λ_ _=>0) ⟨#[],#[.agg #[.slice none 0 0,.slice none 0 0,.slice none 0 0,.slice none 0 0,.slice none 0 0,.slice none 0 0,.slice none 0 0,.slice none 0 0],.agg #[.slice none 0 0,.slice none 0 0],.int .u8 0],[]⟩).memory Tryz.f3.params.toList Rows.proofTextsSpec.vars false (#[.agg #[.slice none 0 0,.slice none 0 0,.slice none 0 0,.slice none 0 0,.slice none 0 0,.slice none 0 0,.slice none 0 0,.slice none 0 0],.agg #[.slice none 0 0,.slice none 0 0],.int .u8 0]:Array Value).toList 16=some ([.agg [.nil,.nil,.nil,.agg [.nil,.nil,.nil],.nil,.nil],.agg [.nil,.nil],.lit (.int .u8 0)],[],places):=
 ⟨[],by kernel_rfl⟩
def laid_met (os:Os):laidMet Tryz.prog Rows.proofTextsUptoRow.laid ((World.laidAll Tryz.prog os Rows.proofTextsUptoRow.laid).forCall (λ_ _=>0) ⟨#[],#[.agg #[.slice none 0 0,.slice none 0 0,.slice none 0 0,.slice none 0 0,.slice none 0 0,.slice none 0 0,.slice none 0 0,.slice none 0 0],.agg #[.slice none 0 0,.slice none 0 0],.int .u8 0],[]⟩).memory:=
 laidMet_laidAll _ (by kernel_rfl) (by kernel_rfl)
def liftedUpto (os:Os)(started:os.Started)(H:Type)(enc:TypeId×Value->H)(F:Stop.Interp) :ReturnsInHanded {} Tryz.checked os 3 .any ((Rows.OpenSpec.upto Rows.proofTextsSpec).preRow enc Tryz.prog Tryz.f3 Rows.proofTextsUptoRow.domain false Rows.proofTextsUptoRow.laid) (((Rows.OpenSpec.upto Rows.proofTextsSpec).at F).post enc Tryz.prog Tryz.f3 false true false false):=by
 obtain⟨places,hx⟩:=reads os enc;refine returnsInHanded_of_row (C:=Tryz.checked) (s:=Rows.OpenSpec.upto Rows.proofTextsSpec) own started (by kernel_rfl) Tryz.func3
  (witness_row_at (enc:=enc) (C:=Tryz.checked) false (World.laidAll Tryz.prog os Rows.proofTextsUptoRow.laid) #[.agg #[.slice none 0 0,.slice none 0 0,.slice none 0 0,.slice none 0 0,.slice none 0 0,.slice none 0 0,.slice none 0 0,.slice none 0 0],.agg #[.slice none 0 0,.slice none 0 0],.int .u8 0] (World.laidAll_os _ _ _) (by kernel_rfl) (by kernel_rfl) (by kernel_rfl)
   (OpenSpec.preRow_of_cond 16 hx (by kernel_rfl) (λk hk=>by cases hk;kernel_rfl) (by kernel_rfl) (laid_met os))) ?_
 intro W base args ds gs before b c _ a _ hL _ _;exact contract H enc W base args ds gs before b c (a _ rfl) hL
def gA:jA_ Tryz.pinned.checked.prog 3 Tryz.f3 (Rows.OpenSpec.upto Rows.proofTextsSpec).bare Rows.proofTextsUptoRow=true:=by kernel_rfl
def gB:jB_ Tryz.pinned.checked.prog 3 Tryz.f3 (Rows.OpenSpec.upto Rows.proofTextsSpec).bare Rows.proofTextsUptoRow=true:=by kernel_rfl
def gC:jC_ Tryz.pinned.checked.prog 3 Tryz.f3 (Rows.OpenSpec.upto Rows.proofTextsSpec).bare Rows.proofTextsUptoRow=true:=by kernel_rfl
def gD:jD_ Tryz.pinned.checked.prog 3 Tryz.f3 (Rows.OpenSpec.upto Rows.proofTextsSpec).bare Rows.proofTextsUptoRow=true:=by kernel_rfl
def gE:jE_ Tryz.pinned.checked.prog 3 Tryz.f3 (Rows.OpenSpec.upto Rows.proofTextsSpec).bare Rows.proofTextsUptoRow=true:=by kernel_rfl
def gF:jF_ Tryz.pinned.checked.prog 3 Tryz.f3 (Rows.OpenSpec.upto Rows.proofTextsSpec).bare Rows.proofTextsUptoRow=true:=by kernel_rfl
def saidUpto:Rows.ProofTextsUptoSaid:=
 OpenClaim.holds_of_cond 3 Tryz.f3 rfl rfl rfl rfl rfl rfl rfl ⟨rfl,rfl,rfl,rfl,rfl⟩ rfl rfl rfl rfl rfl (by kernel_rfl) Tryz.func3 (Ay7 gA gB gC gD gE gF)
  (of_decide_eq_true (by kernel_rfl)) (by unfold Func.isWrapper;first|(rw[Gy (by decide +kernel)];kernel_rfl)|(rw[Hj (by decide +kernel)];exact⟨rfl,rfl⟩))
  (λos started H enc _ F=>by rw[OpenClaim.pre_eq_preRow];exact liftedUpto os started H enc F)
def plain (f:FuncId)(fn:Func)(b:Tryz.pinned.checked.prog.funcNamed "ablaut/ablautlaw45.ProofTexts" = some f)(a:Tryz.pinned.checked.prog.funcs[f]? = some fn) :true=Tryz.pinned.checked.prog.looks []/\∀(j:Nat) t,fn.params[j]? = some t->Tryz.pinned.checked.prog.wantsStandIn t=false:=by
 obtain rfl:f=3:=BE7 ((show Tryz.prog.funcNamed "ablaut/ablautlaw45.ProofTexts" = some 3 by kernel_rfl).symm.trans b) |>.symm;obtain rfl:fn=Tryz.f3:=(BE7 (Tryz.func3.symm.trans a)).symm;refine⟨by kernel_rfl,λj t ht=>?_⟩;rw[BR5]at ht;have hm:=BP4 ht;simp only[List.mem_toArray,BC1,BO4,or_false]at hm;rcases hm with rfl|rfl|rfl
 .exact (show Tryz.prog.wantsStandIn 33=false by kernel_rfl)
 .exact (show Tryz.prog.wantsStandIn 37=false by kernel_rfl)
 exact (show Tryz.prog.wantsStandIn 5=false by kernel_rfl)
def cardUpto:Rows.ProofTextsUptoCardSaid:=
 Claim7.holds_tied_plain_at .later [] _ _ _ _ saidUpto (λ_ h=>by cases h) (by kernel_rfl) (λ_ h=>by cases h) proofTextsUpto_row_tie rfl ⟨rfl,rfl⟩ (by kernel_rfl) rfl plain (by kernel_rfl)
end PrTexts
end Go.AM
