/- Part 12. -/
import Derived.Test.YtcoileenpgjmoaaGreatDoorDJ
import Derived.Test.YtcoileenpgjmoaaGreatDoorDI
import Derived.Test.YtcoileenpgjmoaaGreatDoorDH
import Derived.Test.YtcoileenpgjmoaaGreatDoorDK
import Derived.Lay
set_option linter.defProp false
set_option linter.unusedSimpArgs false
set_option linter.unusedVariables false
set_option linter.unusedSectionVars false
namespace Go.AM
def Bz9:=@Go.Proofs.Tryz.params5
open Go.RowKit Go.ChangeShapes Go.WideShapes Go.ChangeAt Go.Deep Go.Proofs Go.Proofs.YtcoileenpgjmoaaGreatDoor
namespace PrCand
set_option maxRecDepth 100000
def contract (H:Type)(enc:TypeId×Value->H)(W:World)(base:Nat)(args:Array Value)(ds gs:List (DataW H))(before:List MemPlace)
 (a:∀(j:Nat) t v,Tryz.f5.params[j]? = some t->args[j]? = some v->Value.okWide Tryz.prog W .any base t v)
 (u:DataW.Whole enc Tryz.prog Tryz.f5.params.toList Rows.proofCandidatesSpec.vars false W args.toList ds gs before) (hk:Rows.uptoSmall H (ds++gs)=true) (hL:laidMetH Tryz.prog Rows.proofCandidatesUptoRow.laid W) :
 Calls Tryz.prog 5 args W λe W'=>∃v,e=.returned v/\Rows.proofCandidatesSpec.post enc Tryz.prog Tryz.f5 false true false false W args v W':=by
 have d:=u;obtain⟨p,q,f,x,rfl,y,z⟩:=u;have w:DataW.TrodAll enc Tryz.prog W 0 (λ_=>true) true Tryz.f5.params.toList args.toList ds p:=f;rw[Bz9]at w a;obtain⟨v0,vs0,d0,ds0,p0,q0,g,rfl,rfl,h0,r0⟩:=trodAll_cons w;obtain⟨v1,vs1,d1,ds1,p1,q1,rfl,rfl,rfl,h1,r1⟩:=trodAll_cons r0;obtain⟨v2,vs2,d2,ds2,p2,q2,rfl,rfl,rfl,h2,r2⟩:=trodAll_cons r1;obtain⟨rfl,rfl,rfl⟩:=trodAll_nil r2;obtain rfl:args = #[v0,v1,v2]:=by cases args;simp_all
 obtain⟨rfl,rfl⟩:=trodVars_none x;have hb:=of_decide_eq_true hk;simp only[Bk6,Rows.uptoBulkAll]at hb;obtain⟨cs0,c,_⟩:=okWide_struct Tryz.underlying29 (a 0 29 v0 rfl rfl);obtain⟨a1,len1,cap1,l⟩:=okWide_slice Br6 (a 1 22 v1 rfl rfl);obtain⟨_,m⟩:=okWide_int Bn1 (a 2 5 v2 rfl rfl);obtain⟨fu0,g0⟩:=h0;obtain⟨fu1,g1⟩:=h1;obtain⟨fu2,g2⟩:=h2;have o:AF9 Tryz.prog [29,26,22,5,23,137,9,134,3,117,87,4,132,64,135,186,24,30,27]=true:=by kernel_rfl
 have b:∀t∈([29,26,22,5,23,137,9,134,3,117,87,4,132,64,135,186,24,30,27]:List Nat),t<Tryz.prog.types.size:=by decide +kernel
 obtain⟨pv0,c0,sh0⟩:=LD AK1 AK2 o b fu0 29 _ _ (by simp) g0;obtain⟨x0,l0,w0,s0⟩:=ZH _ _ sh0;have s0:NM x0<=Rows.uptoBulk d0:=s0;have e0:=c0.leD l0;rw[c]at e0;have e0:=AK3 e0;rw[<- c]at e0;obtain⟨pv1,c1,sh1⟩:=LD AK1 AK2 o b fu1 22 _ _ (by simp) g1;obtain⟨x1,l1,w1,s1⟩:=Cf Br6 (by kernel_rfl) (S1 Bn1) _ _ sh1;have s1:(Ku (λi=>1) x1.n+1)<=Rows.uptoBulk d1:=s1;have e1:=Af5 (by rw[l];rfl) (c1.leD l1);obtain⟨pv2,c2,sh2⟩:=LD AK1 AK2 o b fu2 5 _ _ (by simp) g2;obtain⟨x2,l2,w2,s2⟩:=S1 Bn1 _ _ sh2;have s2:1<=Rows.uptoBulk d2:=s2;have e2:=Af5 (by rw[m];rfl) (c2.leD l2);have hP:FunO (Gb Tryz.prog) Am [.p (.agg (FD x0)),.p (vSl 1 (cI .u8) x1),.p (pI .u8 x2)] [] (.p (.bb true)) [] []:=
  HL (good _) libC (JO (Af6 w0 (by omega)) (λi r=>AK4 (w1 i r)) (AK4 w2))
 have hc:=RQ (args:=[.agg (FD x0),vSl 1 (cI .u8) x1,pI .u8 x2]) (enters_of Tryz.func5 (by decide +kernel) rfl) hP (W:=W) (vs:=#[v0,v1,v2]) (AU5 (by kernel_rfl) (by kernel_rfl) (by kernel_rfl) hL) rfl (λi r=>by
  match i,r with
  |0,_=>exact e0
  |1,_=>exact e1
  |2,_=>exact e2
  )
 refine hc.mono λe W' ⟨he,s⟩=>?_;subst he;exact⟨_,rfl,At2 rfl (by kernel_rfl) Bo9 (by kernel_rfl) (by rw[Bz9];decide +kernel) d rfl s⟩
def own:ownKnob Tryz.prog.godebug=none:=by kernel_rfl
def reads (os:Os){H:Type}(enc:TypeId×Value->H):∃places,DataW.whole enc Tryz.prog ((World.laidAll Tryz.prog os Rows.proofCandidatesUptoRow.laid).forCall (λ_ _=>0) ⟨#[],#[.agg #[.slice none 0 0,.slice none 0 0,.slice none 0 0,.slice none 0 0],.slice none 0 0,.int .u8 0],[]⟩).memory Tryz.f5.params.toList Rows.proofCandidatesSpec.vars false (#[.agg #[.slice none 0 0,.slice none 0 0,.slice none 0 0,.slice none 0 0],.slice none 0 0,.int .u8 0]:Array Value).toList 16=some ([.agg [.agg [.nil,.nil,.nil],.nil],.nil,.lit (.int .u8 0)],[],places):=
 ⟨[],by kernel_rfl⟩
def laid_met (os:Os):laidMet Tryz.prog Rows.proofCandidatesUptoRow.laid ((World.laidAll Tryz.prog os Rows.proofCandidatesUptoRow.laid).forCall (λ_ _=>0) ⟨#[],#[.agg #[.slice none 0 0,.slice none 0 0,.slice none 0 0,.slice none 0 0],.slice none 0 0,.int .u8 0],[]⟩).memory:=
 laidMet_laidAll _ (by kernel_rfl) (by kernel_rfl)
def liftedUpto (os:Os)(started:os.Started)(H:Type)(enc:TypeId×Value->H)(F:Stop.Interp) :ReturnsInHanded {} Tryz.checked os 5 .any ((Rows.OpenSpec.upto Rows.proofCandidatesSpec).preRow enc Tryz.prog Tryz.f5 Rows.proofCandidatesUptoRow.domain false Rows.proofCandidatesUptoRow.laid) (((Rows.OpenSpec.upto Rows.proofCandidatesSpec).at F).post enc Tryz.prog Tryz.f5 false true false false):=by
 obtain⟨places,hx⟩:=reads os enc;refine returnsInHanded_of_row (C:=Tryz.checked) (s:=Rows.OpenSpec.upto Rows.proofCandidatesSpec) own started (by kernel_rfl) Tryz.func5
  (witness_row_at (enc:=enc) (C:=Tryz.checked) false (World.laidAll Tryz.prog os Rows.proofCandidatesUptoRow.laid) #[.agg #[.slice none 0 0,.slice none 0 0,.slice none 0 0,.slice none 0 0],.slice none 0 0,.int .u8 0] (World.laidAll_os _ _ _) (by kernel_rfl) (by kernel_rfl) (by kernel_rfl)
   (OpenSpec.preRow_of_cond 16 hx (by kernel_rfl) (λk hk=>by cases hk;kernel_rfl) (by kernel_rfl) (laid_met os))) ?_
 intro W base args ds gs before b c _ a _ hL _ _;exact contract H enc W base args ds gs before b c (a _ rfl) hL
def gA:jA_ Tryz.pinned.checked.prog 5 Tryz.f5 (Rows.OpenSpec.upto Rows.proofCandidatesSpec).bare Rows.proofCandidatesUptoRow=true:=by kernel_rfl
def gB:jB_ Tryz.pinned.checked.prog 5 Tryz.f5 (Rows.OpenSpec.upto Rows.proofCandidatesSpec).bare Rows.proofCandidatesUptoRow=true:=by kernel_rfl
def gC:jC_ Tryz.pinned.checked.prog 5 Tryz.f5 (Rows.OpenSpec.upto Rows.proofCandidatesSpec).bare Rows.proofCandidatesUptoRow=true:=by kernel_rfl
def gD:jD_ Tryz.pinned.checked.prog 5 Tryz.f5 (Rows.OpenSpec.upto Rows.proofCandidatesSpec).bare Rows.proofCandidatesUptoRow=true:=by kernel_rfl
def gE:jE_ Tryz.pinned.checked.prog 5 Tryz.f5 (Rows.OpenSpec.upto Rows.proofCandidatesSpec).bare Rows.proofCandidatesUptoRow=true:=by kernel_rfl
def gF:jF_ Tryz.pinned.checked.prog 5 Tryz.f5 (Rows.OpenSpec.upto Rows.proofCandidatesSpec).bare Rows.proofCandidatesUptoRow=true:=by kernel_rfl
def saidUpto:Rows.ProofCandidatesUptoSaid:=
 OpenClaim.holds_of_cond 5 Tryz.f5 rfl rfl rfl rfl rfl rfl rfl ⟨rfl,rfl,rfl,rfl,rfl⟩ rfl rfl rfl rfl rfl (by kernel_rfl) Tryz.func5 (Af7 gA gB gC gD gE gF)
  (of_decide_eq_true (by kernel_rfl)) (by unfold Func.isWrapper;first|(rw[Ej (by decide +kernel)];kernel_rfl)|(rw[Er (by decide +kernel)];exact⟨rfl,rfl⟩))
  (λos started H enc _ F=>by rw[OpenClaim.pre_eq_preRow];exact liftedUpto os started H enc F)
def plain (f:FuncId)(fn:Func)(b:Tryz.pinned.checked.prog.funcNamed "ablaut/ablautlaw45.ProofCandidates" = some f)(a:Tryz.pinned.checked.prog.funcs[f]? = some fn) :true=Tryz.pinned.checked.prog.looks []/\∀(j:Nat) t,fn.params[j]? = some t->Tryz.pinned.checked.prog.wantsStandIn t=false:=by
 obtain rfl:f=5:=Bl5 ((show Tryz.prog.funcNamed "ablaut/ablautlaw45.ProofCandidates" = some 5 by kernel_rfl).symm.trans b) |>.symm;obtain rfl:fn=Tryz.f5:=(Bl5 (Tryz.func5.symm.trans a)).symm;refine⟨by kernel_rfl,λj t ht=>?_⟩;rw[Bz9]at ht;have hm:=Bw8 ht;simp only[List.mem_toArray,Bi3,List.not_mem_nil,or_false]at hm;rcases hm with rfl|rfl|rfl
 .exact (show Tryz.prog.wantsStandIn 29=false by kernel_rfl)
 .exact (show Tryz.prog.wantsStandIn 22=false by kernel_rfl)
 exact (show Tryz.prog.wantsStandIn 5=false by kernel_rfl)
def cardUpto:Rows.ProofCandidatesUptoCardSaid:=
 Claim7.holds_tied_plain_at .later [] _ _ _ _ saidUpto (λ_ h=>by cases h) (by kernel_rfl) (λ_ h=>by cases h) proofCandidatesUpto_row_tie rfl ⟨rfl,rfl⟩ (by kernel_rfl) rfl plain (by kernel_rfl)
end PrCand
end Go.AM
