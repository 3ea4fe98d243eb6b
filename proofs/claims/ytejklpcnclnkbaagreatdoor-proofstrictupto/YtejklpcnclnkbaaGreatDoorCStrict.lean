/- Part 12. -/
import Derived.Test.YtejklpcnclnkbaaGreatDoorSJ
import Derived.Test.YtejklpcnclnkbaaGreatDoorSI
import Derived.Test.YtejklpcnclnkbaaGreatDoorSH
import Derived.Test.YtejklpcnclnkbaaGreatDoorSK
import Derived.Lay
set_option linter.defProp false
set_option linter.unusedSimpArgs false
set_option linter.unusedVariables false
set_option linter.unusedSectionVars false
namespace Go.AM
def Bv6:=@Go.Proofs.Tryz.params3
open Go.RowKit Go.ChangeShapes Go.WideShapes Go.ChangeAt Go.Deep Go.Proofs Go.Proofs.YtejklpcnclnkbaaGreatDoor
namespace PrStrict
set_option maxRecDepth 100000
def contract (H:Type)(enc:TypeId×Value->H)(W:World)(base:Nat)(args:Array Value)(ds gs:List (DataW H))(before:List MemPlace)
 (a:∀(j:Nat) t v,Tryz.f3.params[j]? = some t->args[j]? = some v->Value.okWide Tryz.prog W .any base t v)
 (s:DataW.Whole enc Tryz.prog Tryz.f3.params.toList Rows.proofStrictSpec.vars false W args.toList ds gs before) (hk:Rows.uptoSmall H (ds++gs)=true) (hL:laidMetH Tryz.prog Rows.proofStrictUptoRow.laid W) :
 Calls Tryz.prog 3 args W fun e W'=>∃v,e=.returned v/\Rows.proofStrictSpec.post enc Tryz.prog Tryz.f3 false true false false W args v W':=by
 have f:=s;obtain⟨p,q,g,w,rfl,x,y⟩:=s;have u:DataW.TrodAll enc Tryz.prog W 0 (fun _=>true) true Tryz.f3.params.toList args.toList ds p:=g;rw[Bv6]at u a;obtain⟨v0,vs0,d0,ds0,p0,q0,l,rfl,rfl,z,r0⟩:=trodAll_cons u;obtain⟨v1,vs1,d1,ds1,p1,q1,rfl,rfl,rfl,h1,r1⟩:=trodAll_cons r0;obtain⟨v2,vs2,d2,ds2,p2,q2,rfl,rfl,rfl,h2,r2⟩:=trodAll_cons r1;obtain⟨v3,vs3,d3,ds3,p3,q3,rfl,rfl,rfl,h3,r3⟩:=trodAll_cons r2;obtain⟨rfl,rfl,rfl⟩:=trodAll_nil r3;obtain rfl:args = #[v0,v1,v2,v3]:=by cases args;simp_all
 obtain⟨rfl,rfl⟩:=trodVars_none w;have hb:=of_decide_eq_true hk;simp only[Bi5,Rows.uptoBulkAll]at hb;obtain⟨cs0,c,_⟩:=okWide_struct Tryz.underlying29 (a 0 29 v0 rfl rfl);obtain⟨_,m⟩:=okWide_int Bh9 (a 1 5 v1 rfl rfl);obtain⟨_,n⟩:=okWide_int Bh9 (a 2 5 v2 rfl rfl);obtain⟨_,o⟩:=okWide_int Bh9 (a 3 5 v3 rfl rfl);obtain⟨fu0,g0⟩:=z;obtain⟨fu1,g1⟩:=h1;obtain⟨fu2,g2⟩:=h2;obtain⟨fu3,g3⟩:=h3;have d:AD5 Tryz.prog [29,26,22,5,23,102,9,99,3,96,66,4,97,67,100,164,24,172,27]=true:=by kernel_rfl
 have b:∀t∈([29,26,22,5,23,102,9,99,3,96,66,4,97,67,100,164,24,172,27]:List Nat),t<Tryz.prog.types.size:=by decide +kernel
 obtain⟨pv0,c0,sh0⟩:=IG Aq7 Aq8 d b fu0 29 _ _ (by simp) g0;obtain⟨x0,l0,w0,s0⟩:=Zn _ _ sh0;have s0:NG x0<=Rows.uptoBulk d0:=s0;have e0:=c0.leD l0;rw[c]at e0;have e0:=AH5 e0;rw[<- c]at e0;obtain⟨pv1,c1,sh1⟩:=IG Aq7 Aq8 d b fu1 5 _ _ (by simp) g1;obtain⟨x1,l1,w1,s1⟩:=P5 Bh9 _ _ sh1;have s1:1<=Rows.uptoBulk d1:=s1;have e1:=Wn (by rw[m];rfl) (c1.leD l1);obtain⟨pv2,c2,sh2⟩:=IG Aq7 Aq8 d b fu2 5 _ _ (by simp) g2;obtain⟨x2,l2,w2,s2⟩:=P5 Bh9 _ _ sh2;have s2:1<=Rows.uptoBulk d2:=s2;have e2:=Wn (by rw[n];rfl) (c2.leD l2);obtain⟨pv3,c3,sh3⟩:=IG Aq7 Aq8 d b fu3 5 _ _ (by simp) g3;obtain⟨x3,l3,w3,s3⟩:=P5 Bh9 _ _ sh3;have s3:1<=Rows.uptoBulk d3:=s3;have e3:=Wn (by rw[o];rfl) (c3.leD l3);have hP:FunO (FZ Tryz.prog) De [.p (.agg (Fz x0)),.p (pI .u8 x1),.p (pI .u8 x2),.p (pI .u8 x3)] [] (.p (.bb true)) [] []:=
  Lz (good _) libC (NH (Ad3 w0 (by omega)) (AH6 w1) (AH6 w3))
 have hc:=RG (args:=[.agg (Fz x0),pI .u8 x1,pI .u8 x2,pI .u8 x3]) (enters_of Tryz.func3 (by decide +kernel) rfl) hP (W:=W) (vs:=#[v0,v1,v2,v3]) (AR7 (by kernel_rfl) (by kernel_rfl) (by kernel_rfl) hL) rfl (fun i hi=>by
  match i,hi with
  |0,_=>exact e0
  |1,_=>exact e1
  |2,_=>exact e2
  |3,_=>exact e3
  )
 refine hc.mono fun e W' ⟨he,r⟩=>?_;subst he;exact⟨_,rfl,Aq9 rfl (by kernel_rfl) Bl9 (by kernel_rfl) (by rw[Bv6];decide +kernel) f rfl r⟩
def own:ownKnob Tryz.prog.godebug=none:=by kernel_rfl
def reads (os:Os){H:Type}(enc:TypeId×Value->H):∃places,DataW.whole enc Tryz.prog ((World.laidAll Tryz.prog os Rows.proofStrictUptoRow.laid).forCall (fun _ _=>0) ⟨#[],#[.agg #[.slice none 0 0,.slice none 0 0,.slice none 0 0,.slice none 0 0],.int .u8 0,.int .u8 0,.int .u8 0],[]⟩).memory Tryz.f3.params.toList Rows.proofStrictSpec.vars false (#[.agg #[.slice none 0 0,.slice none 0 0,.slice none 0 0,.slice none 0 0],.int .u8 0,.int .u8 0,.int .u8 0]:Array Value).toList 16=some ([.agg [.agg [.nil,.nil,.nil],.nil],.lit (.int .u8 0),.lit (.int .u8 0),.lit (.int .u8 0)],[],places):=
 ⟨[],by kernel_rfl⟩
def laid_met (os:Os):laidMet Tryz.prog Rows.proofStrictUptoRow.laid ((World.laidAll Tryz.prog os Rows.proofStrictUptoRow.laid).forCall (fun _ _=>0) ⟨#[],#[.agg #[.slice none 0 0,.slice none 0 0,.slice none 0 0,.slice none 0 0],.int .u8 0,.int .u8 0,.int .u8 0],[]⟩).memory:=
 laidMet_laidAll _ (by kernel_rfl) (by kernel_rfl)
def liftedUpto (os:Os)(started:os.Started)(H:Type)(enc:TypeId×Value->H)(F:Stop.Interp) :ReturnsInHanded {} Tryz.checked os 3 .any ((Rows.OpenSpec.upto Rows.proofStrictSpec).preRow enc Tryz.prog Tryz.f3 Rows.proofStrictUptoRow.domain false Rows.proofStrictUptoRow.laid) (((Rows.OpenSpec.upto Rows.proofStrictSpec).at F).post enc Tryz.prog Tryz.f3 false true false false):=by
 obtain⟨places,hx⟩:=reads os enc;refine returnsInHanded_of_row (C:=Tryz.checked) (s:=Rows.OpenSpec.upto Rows.proofStrictSpec) own started (by kernel_rfl) Tryz.func3
  (witness_row_at (enc:=enc) (C:=Tryz.checked) false (World.laidAll Tryz.prog os Rows.proofStrictUptoRow.laid) #[.agg #[.slice none 0 0,.slice none 0 0,.slice none 0 0,.slice none 0 0],.int .u8 0,.int .u8 0,.int .u8 0] (World.laidAll_os _ _ _) (by kernel_rfl) (by kernel_rfl) (by kernel_rfl)
   (OpenSpec.preRow_of_cond 16 hx (by kernel_rfl) (fun k hk=>by cases hk;kernel_rfl) (by kernel_rfl) (laid_met os))) ?_
 intro W base args ds gs before b c _ a _ hL _ _;exact contract H enc W base args ds gs before b c (a _ rfl) hL
def gA:jA_ Tryz.pinned.checked.prog 3 Tryz.f3 (Rows.OpenSpec.upto Rows.proofStrictSpec).bare Rows.proofStrictUptoRow=true:=by kernel_rfl
def gB:jB_ Tryz.pinned.checked.prog 3 Tryz.f3 (Rows.OpenSpec.upto Rows.proofStrictSpec).bare Rows.proofStrictUptoRow=true:=by kernel_rfl
def gC:jC_ Tryz.pinned.checked.prog 3 Tryz.f3 (Rows.OpenSpec.upto Rows.proofStrictSpec).bare Rows.proofStrictUptoRow=true:=by kernel_rfl
def gD:jD_ Tryz.pinned.checked.prog 3 Tryz.f3 (Rows.OpenSpec.upto Rows.proofStrictSpec).bare Rows.proofStrictUptoRow=true:=by kernel_rfl
def gE:jE_ Tryz.pinned.checked.prog 3 Tryz.f3 (Rows.OpenSpec.upto Rows.proofStrictSpec).bare Rows.proofStrictUptoRow=true:=by kernel_rfl
def gF:jF_ Tryz.pinned.checked.prog 3 Tryz.f3 (Rows.OpenSpec.upto Rows.proofStrictSpec).bare Rows.proofStrictUptoRow=true:=by kernel_rfl
def saidUpto:Rows.ProofStrictUptoSaid:=
 OpenClaim.holds_of_cond 3 Tryz.f3 rfl rfl rfl rfl rfl rfl rfl ⟨rfl,rfl,rfl,rfl,rfl⟩ rfl rfl rfl rfl rfl (by kernel_rfl) Tryz.func3 (Ad4 gA gB gC gD gE gF)
  (of_decide_eq_true (by kernel_rfl)) (by unfold Func.isWrapper;first|(rw[Dn (by decide +kernel)];kernel_rfl)|(rw[Ej (by decide +kernel)];exact⟨rfl,rfl⟩))
  (fun os started H enc _ F=>by rw[OpenClaim.pre_eq_preRow];exact liftedUpto os started H enc F)
def plain (f:FuncId)(fn:Func)(b:Tryz.pinned.checked.prog.funcNamed "ablaut/ablautlaw45.ProofStrict" = some f)(a:Tryz.pinned.checked.prog.funcs[f]? = some fn) :true=Tryz.pinned.checked.prog.looks []/\∀(j:Nat) t,fn.params[j]? = some t->Tryz.pinned.checked.prog.wantsStandIn t=false:=by
 obtain rfl:f=3:=Bi6 ((show Tryz.prog.funcNamed "ablaut/ablautlaw45.ProofStrict" = some 3 by kernel_rfl).symm.trans b) |>.symm;obtain rfl:fn=Tryz.f3:=(Bi6 (Tryz.func3.symm.trans a)).symm;refine⟨by kernel_rfl,fun j t ht=>?_⟩;rw[Bv6]at ht;have hm:=Bt0 ht;simp only[List.mem_toArray,Bf3,List.not_mem_nil,or_false]at hm;rcases hm with rfl|rfl|rfl|rfl
 .exact (show Tryz.prog.wantsStandIn 29=false by kernel_rfl)
 .exact (show Tryz.prog.wantsStandIn 5=false by kernel_rfl)
 .exact (show Tryz.prog.wantsStandIn 5=false by kernel_rfl)
 exact (show Tryz.prog.wantsStandIn 5=false by kernel_rfl)
def cardUpto:Rows.ProofStrictUptoCardSaid:=
 Claim7.holds_tied_plain_at .later [] _ _ _ _ saidUpto (fun _ h=>by cases h) (by kernel_rfl) (fun _ h=>by cases h) proofStrictUpto_row_tie rfl ⟨rfl,rfl⟩ (by kernel_rfl) rfl plain (by kernel_rfl)
end PrStrict
end Go.AM
