/- Part 12. -/
import Derived.Test.YtppapmfonjmfbaaGreatDoorRJ
import Derived.Test.YtppapmfonjmfbaaGreatDoorRG
import Derived.Test.YtppapmfonjmfbaaGreatDoorRI
import Derived.Test.YtppapmfonjmfbaaGreatDoorRK
import Derived.Lay
set_option linter.defProp false
set_option linter.unusedSimpArgs false
set_option linter.unusedVariables false
set_option linter.unusedSectionVars false
namespace Go.AM
def Bk0:=@Go.Proofs.Tryz.params3
open Go.RowKit Go.ChangeShapes Go.WideShapes Go.ChangeAt Go.Deep Go.Proofs Go.Proofs.YtppapmfonjmfbaaGreatDoor
namespace ToRec
set_option maxRecDepth 100000
def contract (H:Type)(enc:TypeId×Value->H)(W:World)(base:Nat)(args:Array Value)(ds gs:List (DataW H))(before:List MemPlace)
 (a:∀(j:Nat) t v,Tryz.f3.params[j]? = some t->args[j]? = some v->Value.okWide Tryz.prog W .any base t v)
 (u:DataW.Whole enc Tryz.prog Tryz.f3.params.toList Rows.topReconstructionSpec.vars false W args.toList ds gs before) (hk:Rows.uptoSmall H (ds++gs)=true) (hL:laidMetH Tryz.prog Rows.topReconstructionUptoRow.laid W) :
 Calls Tryz.prog 3 args W fun e W'=>∃v,e=.returned v/\Rows.topReconstructionSpec.post enc Tryz.prog Tryz.f3 false true false false W args v W':=by
 have d:=u;obtain⟨p,q,f,x,rfl,y,z⟩:=u;have w:DataW.TrodAll enc Tryz.prog W 0 (fun _=>true) true Tryz.f3.params.toList args.toList ds p:=f;rw[Bk0]at w a;obtain⟨v0,vs0,d0,ds0,p0,q0,l,rfl,rfl,h0,r0⟩:=trodAll_cons w;obtain⟨v1,vs1,d1,ds1,p1,q1,rfl,rfl,rfl,h1,r1⟩:=trodAll_cons r0;obtain⟨v2,vs2,d2,ds2,p2,q2,rfl,rfl,rfl,h2,r2⟩:=trodAll_cons r1;obtain⟨rfl,rfl,rfl⟩:=trodAll_nil r2;obtain rfl:args = #[v0,v1,v2]:=by cases args;simp_all
 obtain⟨rfl,rfl⟩:=trodVars_none x;have hb:=of_decide_eq_true hk;simp only[Ba3,Rows.uptoBulkAll]at hb;obtain⟨cs0,c,_⟩:=okWide_struct Tryz.underlying26 (a 0 26 v0 rfl rfl);obtain⟨a1,len1,cap1,m⟩:=okWide_slice Tryz.underlying27 (a 1 27 v1 rfl rfl);obtain⟨a2,len2,cap2,o⟩:=okWide_slice Bc0 (a 2 28 v2 rfl rfl);obtain⟨fu0,g0⟩:=h0;obtain⟨fu1,g1⟩:=h1;obtain⟨fu2,g2⟩:=h2;have r:Ar7 Tryz.prog [26,22,62,3,9,23,60,57,54,52,4,55,28,58,138,24,29,27,64]=true:=by kernel_rfl
 have b:∀t∈([26,22,62,3,9,23,60,57,54,52,4,55,28,58,138,24,29,27,64]:List Nat),t<Tryz.prog.types.size:=by decide +kernel
 obtain⟨pv0,c0,sh0⟩:=JB Aw2 Aw3 r b fu0 26 _ _ (by simp) g0;obtain⟨x0,l0,w0,s0⟩:=PN _ _ sh0;have s0:Ez x0<=Rows.uptoBulk d0:=s0;have e0:=c0.leD l0;rw[c]at e0;have e0:=Aw4 e0;rw[<- c]at e0;obtain⟨pv1,c1,sh1⟩:=JB Aw2 Aw3 r b fu1 27 _ _ (by simp) g1;obtain⟨x1,l1,w1,s1⟩:=T8 Tryz.underlying27 (by kernel_rfl) Xn _ _ sh1;have s1:(FZ (fun i=>Ug (x1.g i)) x1.n+1)<=Rows.uptoBulk d1:=s1;have e1:=YK (by rw[m];rfl) (c1.leD l1);obtain⟨pv2,c2,sh2⟩:=JB Aw2 Aw3 r b fu2 28 _ _ (by simp) g2;obtain⟨x2,l2,w2,s2⟩:=T8 Bc0 (by kernel_rfl) Dm _ _ sh2;have s2:(FZ (fun i=>Bk (x2.g i)) x2.n+1)<=Rows.uptoBulk d2:=s2;have e2:=YK (by rw[o];rfl) (c2.leD l2);have hP:FunO (Ga Tryz.prog) N8 [.p (.agg (B6 x0)),.p (vSl 2 L7 x1),.p (vSl 2 A0 x2)] [] (.p (.bb true)) [] []:=
  CQ (AF8 _) libC (Gb Xo (YL w0 (by omega)) (Xp w1) (Ar8 w2))
 have hc:=PO (args:=[.agg (B6 x0),vSl 2 L7 x1,vSl 2 A0 x2]) (enters_of Tryz.func3 (by decide +kernel) rfl) hP (W:=W) (vs:=#[v0,v1,v2]) (Aw5 hL) rfl (fun i hi=>by
  match i,hi with
  |0,_=>exact e0
  |1,_=>exact e1
  |2,_=>exact e2
  )
 refine hc.mono fun e W' ⟨he,s⟩=>?_;subst he;exact⟨_,rfl,Ag5 rfl (by kernel_rfl) Bb1 (by kernel_rfl) (by rw[Bk0];decide +kernel) d rfl s⟩
def own:ownKnob Tryz.prog.godebug=none:=by kernel_rfl
def reads (os:Os){H:Type}(enc:TypeId×Value->H):∃places,DataW.whole enc Tryz.prog ((World.laidAll Tryz.prog os Rows.topReconstructionUptoRow.laid).forCall (fun _ _=>0) ⟨#[],#[.agg #[.slice none 0 0,.slice none 0 0,.slice none 0 0],.slice none 0 0,.slice none 0 0],[]⟩).memory Tryz.f3.params.toList Rows.topReconstructionSpec.vars false (#[.agg #[.slice none 0 0,.slice none 0 0,.slice none 0 0],.slice none 0 0,.slice none 0 0]:Array Value).toList 16=some ([.agg [.nil,.nil,.nil],.nil,.nil],[],places):=
 ⟨[],by kernel_rfl⟩
def laid_met (os:Os):laidMet Tryz.prog Rows.topReconstructionUptoRow.laid ((World.laidAll Tryz.prog os Rows.topReconstructionUptoRow.laid).forCall (fun _ _=>0) ⟨#[],#[.agg #[.slice none 0 0,.slice none 0 0,.slice none 0 0],.slice none 0 0,.slice none 0 0],[]⟩).memory:=
 laidMet_laidAll _ (by kernel_rfl) (by kernel_rfl)
def liftedUpto (os:Os)(started:os.Started)(H:Type)(enc:TypeId×Value->H)(F:Stop.Interp) :ReturnsInHanded {} Tryz.checked os 3 .any ((Rows.OpenSpec.upto Rows.topReconstructionSpec).preRow enc Tryz.prog Tryz.f3 Rows.topReconstructionUptoRow.domain false Rows.topReconstructionUptoRow.laid) (((Rows.OpenSpec.upto Rows.topReconstructionSpec).at F).post enc Tryz.prog Tryz.f3 false true false false):=by
 obtain⟨places,hx⟩:=reads os enc;refine returnsInHanded_of_row (C:=Tryz.checked) (s:=Rows.OpenSpec.upto Rows.topReconstructionSpec) own started (by kernel_rfl) Tryz.func3
  (witness_row_at (enc:=enc) (C:=Tryz.checked) false (World.laidAll Tryz.prog os Rows.topReconstructionUptoRow.laid) #[.agg #[.slice none 0 0,.slice none 0 0,.slice none 0 0],.slice none 0 0,.slice none 0 0] (World.laidAll_os _ _ _) (by kernel_rfl) (by kernel_rfl) (by kernel_rfl)
   (OpenSpec.preRow_of_cond 16 hx (by kernel_rfl) (fun k hk=>by cases hk;kernel_rfl) (by kernel_rfl) (laid_met os))) ?_
 intro W base args ds gs before b c _ a _ hL _ _;exact contract H enc W base args ds gs before b c (a _ rfl) hL
def gA:jA_ Tryz.pinned.checked.prog 3 Tryz.f3 (Rows.OpenSpec.upto Rows.topReconstructionSpec).bare Rows.topReconstructionUptoRow=true:=by kernel_rfl
def gB:jB_ Tryz.pinned.checked.prog 3 Tryz.f3 (Rows.OpenSpec.upto Rows.topReconstructionSpec).bare Rows.topReconstructionUptoRow=true:=by kernel_rfl
def gC:jC_ Tryz.pinned.checked.prog 3 Tryz.f3 (Rows.OpenSpec.upto Rows.topReconstructionSpec).bare Rows.topReconstructionUptoRow=true:=by kernel_rfl
def gD:jD_ Tryz.pinned.checked.prog 3 Tryz.f3 (Rows.OpenSpec.upto Rows.topReconstructionSpec).bare Rows.topReconstructionUptoRow=true:=by kernel_rfl
def gE:jE_ Tryz.pinned.checked.prog 3 Tryz.f3 (Rows.OpenSpec.upto Rows.topReconstructionSpec).bare Rows.topReconstructionUptoRow=true:=by kernel_rfl
def gF:jF_ Tryz.pinned.checked.prog 3 Tryz.f3 (Rows.OpenSpec.upto Rows.topReconstructionSpec).bare Rows.topReconstructionUptoRow=true:=by kernel_rfl
def saidUpto:Rows.TopReconstructionUptoSaid:=
 OpenClaim.holds_of_cond 3 Tryz.f3 rfl rfl rfl rfl rfl rfl rfl ⟨rfl,rfl,rfl,rfl,rfl⟩ rfl rfl rfl rfl rfl (by kernel_rfl) Tryz.func3 (YM gA gB gC gD gE gF)
  (of_decide_eq_true (by kernel_rfl)) (by unfold Func.isWrapper;first|(rw[Ll (by decide +kernel)];kernel_rfl)|(rw[Lm (by decide +kernel)];exact⟨rfl,rfl⟩))
  (fun os started H enc _ F=>by rw[OpenClaim.pre_eq_preRow];exact liftedUpto os started H enc F)
def plain (f:FuncId)(fn:Func)(b:Tryz.pinned.checked.prog.funcNamed "ablaut/ablauttop.TopReconstruction" = some f)(a:Tryz.pinned.checked.prog.funcs[f]? = some fn) :true=Tryz.pinned.checked.prog.looks []/\∀(j:Nat) t,fn.params[j]? = some t->Tryz.pinned.checked.prog.wantsStandIn t=false:=by
 obtain rfl:f=3:=AS8 ((show Tryz.prog.funcNamed "ablaut/ablauttop.TopReconstruction" = some 3 by kernel_rfl).symm.trans b) |>.symm;obtain rfl:fn=Tryz.f3:=(AS8 (Tryz.func3.symm.trans a)).symm;refine⟨by kernel_rfl,fun j t ht=>?_⟩;rw[Bk0]at ht;have hm:=Bh4 ht;simp only[List.mem_toArray,AT9,List.not_mem_nil,or_false]at hm;rcases hm with rfl|rfl|rfl
 .exact (show Tryz.prog.wantsStandIn 26=false by kernel_rfl)
 .exact (show Tryz.prog.wantsStandIn 27=false by kernel_rfl)
 exact (show Tryz.prog.wantsStandIn 28=false by kernel_rfl)
def cardUpto:Rows.TopReconstructionUptoCardSaid:=
 Claim7.holds_tied_plain_at .later [] _ _ _ _ saidUpto (fun _ h=>by cases h) (by kernel_rfl) (fun _ h=>by cases h) topReconstructionUpto_row_tie rfl ⟨rfl,rfl⟩ (by kernel_rfl) rfl plain (by kernel_rfl)
end ToRec
end Go.AM
