/- Part 14. -/
import Derived.Test.YtnpnbnncocgaeaaGreatDoorZL
import Derived.Test.YtnpnbnncocgaeaaGreatDoorZI
import Derived.Test.YtnpnbnncocgaeaaGreatDoorZK
import Derived.Test.YtnpnbnncocgaeaaGreatDoorZM
import Derived.Lay
set_option linter.defProp false
set_option linter.unusedSimpArgs false
set_option linter.unusedVariables false
set_option linter.unusedSectionVars false
namespace Go.AM
def Ci1:=@Go.Proofs.Tryz.underlying2
def Ck6:=@Go.Proofs.Tryz.params3
open Go.RowKit Go.ChangeShapes Go.WideShapes Go.ChangeAt Go.Deep Go.Proofs Go.Proofs.YtnpnbnncocgaeaaGreatDoor
namespace PrLeast
set_option maxRecDepth 100000
def contract (H:Type)(enc:TypeId×Value->H)(W:World)(base:Nat)(args:Array Value)(ds gs:List (DataW H))(before:List MemPlace)
 (a:∀(j:Nat) t v,Tryz.f3.params[j]? = some t->args[j]? = some v->Value.okWide Tryz.prog W .any base t v)
 (x:DataW.Whole enc Tryz.prog Tryz.f3.params.toList Rows.proofLeastSpec.vars false W args.toList ds gs before) (hk:Rows.uptoSmall H (ds++gs)=true) (hL:laidMetH Tryz.prog Rows.proofLeastUptoRow.laid W) :
 Calls Tryz.prog 3 args W λe W'=>∃v,e=.returned v/\Rows.proofLeastSpec.post enc Tryz.prog Tryz.f3 false true false false W args v W':=by
 have f:=x;obtain⟨p,q,l,z,rfl,a0,a2⟩:=x;have y:DataW.TrodAll enc Tryz.prog W 0 (λ_=>true) true Tryz.f3.params.toList args.toList ds p:=l;rw[Ck6]at y a;obtain⟨v0,vs0,d0,ds0,p0,q0,m,rfl,rfl,h0,r0⟩:=trodAll_cons y;obtain⟨v1,vs1,d1,ds1,p1,q1,rfl,rfl,rfl,h1,r1⟩:=trodAll_cons r0;obtain⟨v2,vs2,d2,ds2,p2,q2,rfl,rfl,rfl,h2,r2⟩:=trodAll_cons r1;obtain⟨v3,vs3,d3,ds3,p3,q3,rfl,rfl,rfl,h3,r3⟩:=trodAll_cons r2;obtain⟨rfl,rfl,rfl⟩:=trodAll_nil r3;obtain rfl:args = #[v0,v1,v2,v3]:=by cases args;simp_all
 obtain⟨rfl,rfl⟩:=trodVars_none z;have hb:=of_decide_eq_true hk;simp only[BV8,Rows.uptoBulkAll]at hb;obtain⟨cs0,c,_⟩:=okWide_struct Tryz.underlying33 (a 0 33 v0 rfl rfl);obtain⟨a1,len1,cap1,o⟩:=okWide_slice Tryz.underlying34 (a 1 34 v1 rfl rfl);obtain⟨_,r⟩:=okWide_int BW2 (a 2 3 v2 rfl rfl);obtain⟨_,s⟩:=okWide_int Ci1 (a 3 2 v3 rfl rfl);obtain⟨fu0,g0⟩:=h0;obtain⟨fu1,g1⟩:=h1;obtain⟨fu2,g2⟩:=h2;obtain⟨fu3,g3⟩:=h3;have d:Br4 Tryz.prog [33,22,9,23,91,78,76,24,231,29,25,119,3,26,84,81,4,79,37,82,139,27,75,30,42,31,49,34,2]=true:=by kernel_rfl
 have b:∀t∈([33,22,9,23,91,78,76,24,231,29,25,119,3,26,84,81,4,79,37,82,139,27,75,30,42,31,49,34,2]:List Nat),t<Tryz.prog.types.size:=by decide +kernel
 obtain⟨pv0,c0,sh0⟩:=Kx Be7 Be8 d b fu0 33 _ _ (by simp) g0;obtain⟨x0,l0,w0,s0⟩:=Wk _ _ sh0;have s0:DJ x0<=Rows.uptoBulk d0:=s0;have e0:=c0.leD l0;rw[c]at e0;have e0:=Bw2 e0;rw[<- c]at e0;obtain⟨pv1,c1,sh1⟩:=Kx Be7 Be8 d b fu1 34 _ _ (by simp) g1;obtain⟨x1,l1,w1,s1⟩:=K9 Tryz.underlying34 (by kernel_rfl) (K9 Cg2 (by kernel_rfl) Cx) _ _ sh1;have s1:(EY (λi=>EY (λi=>V4 ((x1.g i).g i)) (x1.g i).n+1) x1.n+1)<=Rows.uptoBulk d1:=s1;have e1:=Ai6 (by rw[o];rfl) (c1.leD l1);obtain⟨pv2,c2,sh2⟩:=Kx Be7 Be8 d b fu2 3 _ _ (by simp) g2;obtain⟨x2,l2,w2,s2⟩:=T8 BW2 _ _ sh2;have s2:1<=Rows.uptoBulk d2:=s2;have e2:=Ai6 (by rw[r];rfl) (c2.leD l2);obtain⟨pv3,c3,sh3⟩:=Kx Be7 Be8 d b fu3 2 _ _ (by simp) g3;obtain⟨x3,l3,w3,s3⟩:=T8 Ci1 _ _ sh3;have s3:1<=Rows.uptoBulk d3:=s3;have e3:=Ai6 (by rw[s];rfl) (c3.leD l3);have hP:Qi (HP Tryz.prog) ER [.p (.agg (A9 x0)),.p (vSl 1 (cL 2 A0) x1),.p (pI .i64 x2),.p (pI .i64 x3)] [] (.p (.bb true)) [] []:=
  PW (Ai7 _) libC (Tv (by omega) AE1 (Aw7 w0 (by omega)).1 (Aw7 w0 (by omega)).2 (BI3 (by omega)) (λi u=>Br5 (w1 i u)) x2 x3)
 have hc:=Wl (args:=[.agg (A9 x0),vSl 1 (cL 2 A0) x1,pI .i64 x2,pI .i64 x3]) (enters_of Tryz.func3 (by decide +kernel) rfl) hP (W:=W) (vs:=#[v0,v1,v2,v3]) (BI4 (by kernel_rfl) (by kernel_rfl) (by kernel_rfl) hL) rfl (λi u=>by
  match i,u with
  |0,_=>exact e0
  |1,_=>exact e1
  |2,_=>exact e2
  |3,_=>exact e3
  )
 refine hc.mono λe W' ⟨he,w⟩=>?_;subst he;exact⟨_,rfl,Be9 rfl (by kernel_rfl) Ca9 (by kernel_rfl) (by rw[Ck6];decide +kernel) f rfl w⟩
def own:ownKnob Tryz.prog.godebug=none:=by kernel_rfl
def reads (os:Os){H:Type}(enc:TypeId×Value->H):∃places,DataW.whole enc Tryz.prog ((World.laidAll Tryz.prog os Rows.proofLeastUptoRow.laid).forCall (λ_ _=>0) ⟨#[],#[.agg #[.slice none 0 0,.slice none 0 0,.slice none 0 0,.slice none 0 0,.slice none 0 0,.slice none 0 0,.slice none 0 0,.slice none 0 0],.slice none 0 0,.int .i64 0,.int .i64 0],[]⟩).memory Tryz.f3.params.toList Rows.proofLeastSpec.vars false (#[.agg #[.slice none 0 0,.slice none 0 0,.slice none 0 0,.slice none 0 0,.slice none 0 0,.slice none 0 0,.slice none 0 0,.slice none 0 0],.slice none 0 0,.int .i64 0,.int .i64 0]:Array Value).toList 16=some ([.agg [.nil,.nil,.nil,.agg [.nil,.nil,.nil],.nil,.nil],.nil,.lit (.int .i64 0),.lit (.int .i64 0)],[],places):=
 ⟨[],by kernel_rfl⟩
def laid_met (os:Os):laidMet Tryz.prog Rows.proofLeastUptoRow.laid ((World.laidAll Tryz.prog os Rows.proofLeastUptoRow.laid).forCall (λ_ _=>0) ⟨#[],#[.agg #[.slice none 0 0,.slice none 0 0,.slice none 0 0,.slice none 0 0,.slice none 0 0,.slice none 0 0,.slice none 0 0,.slice none 0 0],.slice none 0 0,.int .i64 0,.int .i64 0],[]⟩).memory:=
 laidMet_laidAll _ (by kernel_rfl) (by kernel_rfl)
def liftedUpto (os:Os)(started:os.Started)(H:Type)(enc:TypeId×Value->H)(F:Stop.Interp) :ReturnsInHanded {} Tryz.checked os 3 .any ((Rows.OpenSpec.upto Rows.proofLeastSpec).preRow enc Tryz.prog Tryz.f3 Rows.proofLeastUptoRow.domain false Rows.proofLeastUptoRow.laid) (((Rows.OpenSpec.upto Rows.proofLeastSpec).at F).post enc Tryz.prog Tryz.f3 false true false false):=by
 obtain⟨places,hx⟩:=reads os enc;refine returnsInHanded_of_row (C:=Tryz.checked) (s:=Rows.OpenSpec.upto Rows.proofLeastSpec) own started (by kernel_rfl) Tryz.func3
  (witness_row_at (enc:=enc) (C:=Tryz.checked) false (World.laidAll Tryz.prog os Rows.proofLeastUptoRow.laid) #[.agg #[.slice none 0 0,.slice none 0 0,.slice none 0 0,.slice none 0 0,.slice none 0 0,.slice none 0 0,.slice none 0 0,.slice none 0 0],.slice none 0 0,.int .i64 0,.int .i64 0] (World.laidAll_os _ _ _) (by kernel_rfl) (by kernel_rfl) (by kernel_rfl)
   (OpenSpec.preRow_of_cond 16 hx (by kernel_rfl) (λk hk=>by cases hk;kernel_rfl) (by kernel_rfl) (laid_met os))) ?_
 intro W base args ds gs before b c _ a _ hL _ _;exact contract H enc W base args ds gs before b c (a _ rfl) hL
def gA:jA_ Tryz.pinned.checked.prog 3 Tryz.f3 (Rows.OpenSpec.upto Rows.proofLeastSpec).bare Rows.proofLeastUptoRow=true:=by kernel_rfl
def gB:jB_ Tryz.pinned.checked.prog 3 Tryz.f3 (Rows.OpenSpec.upto Rows.proofLeastSpec).bare Rows.proofLeastUptoRow=true:=by kernel_rfl
def gC:jC_ Tryz.pinned.checked.prog 3 Tryz.f3 (Rows.OpenSpec.upto Rows.proofLeastSpec).bare Rows.proofLeastUptoRow=true:=by kernel_rfl
def gD:jD_ Tryz.pinned.checked.prog 3 Tryz.f3 (Rows.OpenSpec.upto Rows.proofLeastSpec).bare Rows.proofLeastUptoRow=true:=by kernel_rfl
def gE:jE_ Tryz.pinned.checked.prog 3 Tryz.f3 (Rows.OpenSpec.upto Rows.proofLeastSpec).bare Rows.proofLeastUptoRow=true:=by kernel_rfl
def gF:jF_ Tryz.pinned.checked.prog 3 Tryz.f3 (Rows.OpenSpec.upto Rows.proofLeastSpec).bare Rows.proofLeastUptoRow=true:=by kernel_rfl
def saidUpto:Rows.ProofLeastUptoSaid:=
 OpenClaim.holds_of_cond 3 Tryz.f3 rfl rfl rfl rfl rfl rfl rfl ⟨rfl,rfl,rfl,rfl,rfl⟩ rfl rfl rfl rfl rfl (by kernel_rfl) Tryz.func3 (AP4 gA gB gC gD gE gF)
  (of_decide_eq_true (by kernel_rfl)) (by unfold Func.isWrapper;first|(rw[Fg (by decide +kernel)];kernel_rfl)|(rw[Gb (by decide +kernel)];exact⟨rfl,rfl⟩))
  (λos started H enc _ F=>by rw[OpenClaim.pre_eq_preRow];exact liftedUpto os started H enc F)
def plain (f:FuncId)(fn:Func)(b:Tryz.pinned.checked.prog.funcNamed "ablaut/ablautlaw45.ProofLeast" = some f)(a:Tryz.pinned.checked.prog.funcs[f]? = some fn) :true=Tryz.pinned.checked.prog.looks []/\∀(j:Nat) t,fn.params[j]? = some t->Tryz.pinned.checked.prog.wantsStandIn t=false:=by
 obtain rfl:f=3:=BZ7 ((show Tryz.prog.funcNamed "ablaut/ablautlaw45.ProofLeast" = some 3 by kernel_rfl).symm.trans b) |>.symm;obtain rfl:fn=Tryz.f3:=(BZ7 (Tryz.func3.symm.trans a)).symm;refine⟨by kernel_rfl,λj t ht=>?_⟩;rw[Ck6]at ht;have hm:=Cj3 ht;simp only[List.mem_toArray,BX5,List.not_mem_nil,or_false]at hm;rcases hm with rfl|rfl|rfl|rfl
 .exact (show Tryz.prog.wantsStandIn 33=false by kernel_rfl)
 .exact (show Tryz.prog.wantsStandIn 34=false by kernel_rfl)
 .exact (show Tryz.prog.wantsStandIn 3=false by kernel_rfl)
 exact (show Tryz.prog.wantsStandIn 2=false by kernel_rfl)
def cardUpto:Rows.ProofLeastUptoCardSaid:=
 Claim7.holds_tied_plain_at .later [] _ _ _ _ saidUpto (λ_ h=>by cases h) (by kernel_rfl) (λ_ h=>by cases h) proofLeastUpto_row_tie rfl ⟨rfl,rfl⟩ (by kernel_rfl) rfl plain (by kernel_rfl)
end PrLeast
end Go.AM
