/- What a law's walk and its plain proof need, part 12: no condition of its own. -/
import Derived.Test.YtfcfdofmgkpmbaaGreatDoorMJ
import Derived.Test.YtfcfdofmgkpmbaaGreatDoorMI
import Derived.Test.YtfcfdofmgkpmbaaGreatDoorMG
import Derived.Test.YtfcfdofmgkpmbaaGreatDoorMK
import Derived.Lay
set_option linter.defProp false
set_option linter.unusedSimpArgs false
set_option linter.unusedVariables false
set_option linter.unusedSectionVars false
namespace Go.AM
def Br5:=@Go.Proofs.Tryz.params6
open Go.RowKit Go.ChangeShapes Go.WideShapes Go.ChangeAt Go.Deep Go.Proofs Go.Proofs.YtfcfdofmgkpmbaaGreatDoor
namespace InWords
set_option maxRecDepth 100000
theorem contract (H:Type)(enc:TypeId×Value->H)(W:World)(base:Nat)(args:Array Value)(ds gs:List (DataW H))(before:List MemPlace)
 (a:∀(j:Nat) t v,Tryz.f6.params[j]? = some t->args[j]? = some v->Value.okWide Tryz.prog W .any base t v)
 (s:DataW.Whole enc Tryz.prog Tryz.f6.params.toList Rows.innovWordsSpec.vars false W args.toList ds gs before) (hk:Rows.uptoSmall H (ds++gs)=true) (hL:laidMetH Tryz.prog Rows.innovWordsUptoRow.laid W) :
 Calls Tryz.prog 6 args W fun e W'=>∃v,e=.returned v/\Rows.innovWordsSpec.post enc Tryz.prog Tryz.f6 false true false false W args v W':=by
 have d:=s;obtain⟨p,q,f,x,rfl,y,z⟩:=s;have u:DataW.TrodAll enc Tryz.prog W 0 (fun _=>true) true Tryz.f6.params.toList args.toList ds p:=f;rw[Br5]at u a;obtain⟨v0,vs0,d0,ds0,p0,q0,l,rfl,rfl,h0,r0⟩:=trodAll_cons u;obtain⟨v1,vs1,d1,ds1,p1,q1,rfl,rfl,rfl,h1,r1⟩:=trodAll_cons r0;obtain⟨rfl,rfl,rfl⟩:=trodAll_nil r1;obtain rfl:args = #[v0,v1]:=by cases args;simp_all
 obtain⟨rfl,rfl⟩:=trodVars_none x;have hb:=of_decide_eq_true hk;simp only[Bg3,Rows.uptoBulkAll]at hb;obtain⟨cs0,b,_⟩:=okWide_struct Tryz.underlying54 (a 0 54 v0 rfl rfl);obtain⟨a1,len1,cap1,m⟩:=okWide_slice Tryz.underlying59 (a 1 59 v1 rfl rfl);obtain⟨fu0,g0⟩:=h0;obtain⟨fu1,g1⟩:=h1;have w:AB9 Tryz.prog [54,50,95,3,9,51,124,121,87,85,4,119,76,122,155,52,29,59]=true:=by kernel_rfl
 have c:∀t∈([54,50,95,3,9,51,124,121,87,85,4,119,76,122,155,52,29,59]:List Nat),t<Tryz.prog.types.size:=by decide +kernel
 obtain⟨pv0,c0,sh0⟩:=Pa AQ9 AR0 w c fu0 54 _ _ (by simp) g0;obtain⟨x0,l0,w0,s0⟩:=Qv _ _ sh0;have s0:EB x0<=Rows.uptoBulk d0:=s0;have e0:=c0.leD l0;rw[b]at e0;have e0:=AG0 e0;rw[<- b]at e0;obtain⟨pv1,c1,sh1⟩:=Pa AQ9 AR0 w c fu1 59 _ _ (by simp) g1;obtain⟨x1,l1,w1,s1⟩:=X1 Tryz.underlying59 (by kernel_rfl) (X1 Bn8 (by kernel_rfl) Fk) _ _ sh1;have s1:(Hf (fun i=>Hf (fun i=>Co ((x1.g i).g i)) (x1.g i).n+1) x1.n+1)<=Rows.uptoBulk d1:=s1;have e1:=AG1 (by rw[m];rfl) (c1.leD l1);have hP:FunO (Hs Tryz.prog) CJ [.p (.agg (A8 x0)),.p (vSl 1 (cL 2 A0) x1)] [] (.p (.bb true)) [] []:=
  Ld (AP6 _) libC (Ob (N:=4194304) (by omega) YF (Ad8 w0 (by omega)) (fun i o=>AR1 (w1 i o)))
 have hc:=Qw (args:=[.agg (A8 x0),vSl 1 (cL 2 A0) x1]) (enters_of Tryz.func6 (by decide +kernel) rfl) hP (W:=W) (vs:=#[v0,v1]) (AG2 hL) rfl (fun i o=>by
  match i,o with
  |0,_=>exact e0
  |1,_=>exact e1
  )
 refine hc.mono fun e W' ⟨he,r⟩=>?_;subst he;exact⟨_,rfl,Aq9 rfl (by kernel_rfl) Bi9 (by kernel_rfl) (by rw[Br5];decide +kernel) d rfl r⟩
theorem own:ownKnob Tryz.prog.godebug=none:=by kernel_rfl
theorem reads (os:Os){H:Type}(enc:TypeId×Value->H):∃places,DataW.whole enc Tryz.prog ((World.laidAll Tryz.prog os Rows.innovWordsUptoRow.laid).forCall (fun _ _=>0) ⟨#[],#[.agg #[.slice none 0 0,.slice none 0 0,.slice none 0 0],.slice none 0 0],[]⟩).memory Tryz.f6.params.toList Rows.innovWordsSpec.vars false (#[.agg #[.slice none 0 0,.slice none 0 0,.slice none 0 0],.slice none 0 0]:Array Value).toList 16=some ([.agg [.nil,.nil,.nil],.nil],[],places):=
 ⟨[],by kernel_rfl⟩
theorem laid_met (os:Os):laidMet Tryz.prog Rows.innovWordsUptoRow.laid ((World.laidAll Tryz.prog os Rows.innovWordsUptoRow.laid).forCall (fun _ _=>0) ⟨#[],#[.agg #[.slice none 0 0,.slice none 0 0,.slice none 0 0],.slice none 0 0],[]⟩).memory:=
 laidMet_laidAll _ (by kernel_rfl) (by kernel_rfl)
theorem liftedUpto (os:Os)(started:os.Started)(H:Type)(enc:TypeId×Value->H)(F:Stop.Interp) :ReturnsInHanded {} Tryz.checked os 6 .any ((Rows.OpenSpec.upto Rows.innovWordsSpec).preRow enc Tryz.prog Tryz.f6 Rows.innovWordsUptoRow.domain false Rows.innovWordsUptoRow.laid) (((Rows.OpenSpec.upto Rows.innovWordsSpec).at F).post enc Tryz.prog Tryz.f6 false true false false):=by
 obtain⟨places,hx⟩:=reads os enc;refine returnsInHanded_of_row (C:=Tryz.checked) (s:=Rows.OpenSpec.upto Rows.innovWordsSpec) own started (by kernel_rfl) Tryz.func6
  (witness_row_at (enc:=enc) (C:=Tryz.checked) false (World.laidAll Tryz.prog os Rows.innovWordsUptoRow.laid) #[.agg #[.slice none 0 0,.slice none 0 0,.slice none 0 0],.slice none 0 0] (World.laidAll_os _ _ _) (by kernel_rfl) (by kernel_rfl) (by kernel_rfl)
   (OpenSpec.preRow_of_cond 16 hx (by kernel_rfl) (fun k hk=>by cases hk;kernel_rfl) (by kernel_rfl) (laid_met os))) ?_
 intro W base args ds gs before b c _ a _ hL _ _;exact contract H enc W base args ds gs before b c (a _ rfl) hL
theorem gA:jA_ Tryz.pinned.checked.prog 6 Tryz.f6 (Rows.OpenSpec.upto Rows.innovWordsSpec).bare Rows.innovWordsUptoRow=true:=by kernel_rfl
theorem gB:jB_ Tryz.pinned.checked.prog 6 Tryz.f6 (Rows.OpenSpec.upto Rows.innovWordsSpec).bare Rows.innovWordsUptoRow=true:=by kernel_rfl
theorem gC:jC_ Tryz.pinned.checked.prog 6 Tryz.f6 (Rows.OpenSpec.upto Rows.innovWordsSpec).bare Rows.innovWordsUptoRow=true:=by kernel_rfl
theorem gD:jD_ Tryz.pinned.checked.prog 6 Tryz.f6 (Rows.OpenSpec.upto Rows.innovWordsSpec).bare Rows.innovWordsUptoRow=true:=by kernel_rfl
theorem gE:jE_ Tryz.pinned.checked.prog 6 Tryz.f6 (Rows.OpenSpec.upto Rows.innovWordsSpec).bare Rows.innovWordsUptoRow=true:=by kernel_rfl
theorem gF:jF_ Tryz.pinned.checked.prog 6 Tryz.f6 (Rows.OpenSpec.upto Rows.innovWordsSpec).bare Rows.innovWordsUptoRow=true:=by kernel_rfl
theorem saidUpto:Rows.InnovWordsUptoSaid:=
 OpenClaim.holds_of_cond 6 Tryz.f6 rfl rfl rfl rfl rfl rfl rfl ⟨rfl,rfl,rfl,rfl,rfl⟩ rfl rfl rfl rfl rfl (by kernel_rfl) Tryz.func6 (Ad9 gA gB gC gD gE gF)
  (of_decide_eq_true (by kernel_rfl)) (by unfold Func.isWrapper;first|(rw[if_pos (by decide +kernel)];kernel_rfl)|(rw[if_neg (by decide +kernel)];exact⟨rfl,rfl⟩))
  (fun os started H enc _ F=>by rw[OpenClaim.pre_eq_preRow];exact liftedUpto os started H enc F)
theorem plain (f:FuncId)(fn:Func)(b:Tryz.pinned.checked.prog.funcNamed "ablaut/ablautlaw31.InnovWords" = some f)(a:Tryz.pinned.checked.prog.funcs[f]? = some fn) :true=Tryz.pinned.checked.prog.looks []/\∀(j:Nat) t,fn.params[j]? = some t->Tryz.pinned.checked.prog.wantsStandIn t=false:=by
 obtain rfl:f=6:=Bk6 ((show Tryz.prog.funcNamed "ablaut/ablautlaw31.InnovWords" = some 6 by kernel_rfl).symm.trans b) |>.symm;obtain rfl:fn=Tryz.f6:=(Bk6 (Tryz.func6.symm.trans a)).symm;refine⟨by kernel_rfl,fun j t ht=>?_⟩;rw[Br5]at ht;have hm:=Bp3 ht;simp only[List.mem_toArray,Bc8,List.not_mem_nil,or_false]at hm;rcases hm with rfl|rfl
 ·exact (show Tryz.prog.wantsStandIn 54=false by kernel_rfl)
 ·exact (show Tryz.prog.wantsStandIn 59=false by kernel_rfl)
theorem cardUpto:Rows.InnovWordsUptoCardSaid:=
 Claim7.holds_tied_plain_at .later [] _ _ _ _ saidUpto (fun _ h=>by cases h) (by kernel_rfl) (fun _ h=>by cases h) innovWordsUpto_row_tie rfl ⟨rfl,rfl⟩ (by kernel_rfl) rfl plain (by kernel_rfl)
end InWords
end Go.AM
