/- What a law's walk and its plain proof need, part 11: no condition of its own. -/
import Derived.Test.YtfcfdofmgkpmbaaGreatDoorOI
import Derived.Test.YtfcfdofmgkpmbaaGreatDoorOH
import Derived.Test.YtfcfdofmgkpmbaaGreatDoorOG
import Derived.Test.YtfcfdofmgkpmbaaGreatDoorOJ
import Derived.Lay
set_option linter.defProp false
set_option linter.unusedSimpArgs false
set_option linter.unusedVariables false
set_option linter.unusedSectionVars false
namespace Go.AM
def Bl4:=@Go.Proofs.Tryz.params8
open Go.RowKit Go.ChangeShapes Go.WideShapes Go.ChangeAt Go.Deep Go.Proofs Go.Proofs.YtfcfdofmgkpmbaaGreatDoor
namespace InClasses
set_option maxRecDepth 100000
theorem contract (H:Type)(enc:TypeId×Value->H)(W:World)(base:Nat)(args:Array Value)(ds gs:List (DataW H))(before:List MemPlace)
 (a:∀(j:Nat) t v,Tryz.f8.params[j]? = some t->args[j]? = some v->Value.okWide Tryz.prog W .any base t v)
 (r:DataW.Whole enc Tryz.prog Tryz.f8.params.toList Rows.innovClassesSpec.vars false W args.toList ds gs before) (hk:Rows.uptoSmall H (ds++gs)=true) (hL:laidMetH Tryz.prog Rows.innovClassesUptoRow.laid W) :
 Calls Tryz.prog 8 args W fun e W'=>∃v,e=.returned v/\Rows.innovClassesSpec.post enc Tryz.prog Tryz.f8 false true false false W args v W':=by
 have d:=r;obtain⟨p,q,f,w,rfl,x,y⟩:=r;have s:DataW.TrodAll enc Tryz.prog W 0 (fun _=>true) true Tryz.f8.params.toList args.toList ds p:=f;rw[Bl4]at s a;obtain⟨v0,vs0,d0,ds0,p0,q0,l,rfl,rfl,z,r0⟩:=trodAll_cons s;obtain⟨v1,vs1,d1,ds1,p1,q1,rfl,rfl,rfl,h1,r1⟩:=trodAll_cons r0;obtain⟨rfl,rfl,rfl⟩:=trodAll_nil r1;obtain rfl:args = #[v0,v1]:=by cases args;simp_all
 obtain⟨rfl,rfl⟩:=trodVars_none w;have hb:=of_decide_eq_true hk;simp only[Ba8,Rows.uptoBulkAll]at hb;obtain⟨cs0,b,_⟩:=okWide_struct Tryz.underlying75 (a 0 75 v0 rfl rfl);obtain⟨a1,len1,cap1,m⟩:=okWide_slice Bf1 (a 1 76 v1 rfl rfl);obtain⟨fu0,g0⟩:=z;obtain⟨fu1,g1⟩:=h1;have u:At7 Tryz.prog [75,72,5,51,124,9,121,3,87,85,4,119,76,122,155,73,182]=true:=by kernel_rfl
 have c:∀t∈([75,72,5,51,124,9,121,3,87,85,4,119,76,122,155,73,182]:List Nat),t<Tryz.prog.types.size:=by decide +kernel
 obtain⟨pv0,c0,sh0⟩:=ON AJ1 AJ2 u c fu0 75 _ _ (by simp) g0;obtain⟨x0,l0,w0,s0⟩:=Uj _ _ sh0;have s0:IB x0<=Rows.uptoBulk d0:=s0;have e0:=c0.leD l0;rw[b]at e0;have e0:=Ay0 e0;rw[<- b]at e0;obtain⟨pv1,c1,sh1⟩:=ON AJ1 AJ2 u c fu1 76 _ _ (by simp) g1;obtain⟨x1,l1,w1,s1⟩:=BY Bf1 (by kernel_rfl) Fe _ _ sh1;have s1:(JN (fun i=>Cp (x1.g i)) x1.n+1)<=Rows.uptoBulk d1:=s1;have e1:=Ay1 (by rw[m];rfl) (c1.leD l1);have hP:FunO (Hn Tryz.prog) Bu [.p (.agg (CL x0)),.p (vSl 2 A0 x1)] [] (.p (.bb true)) [] []:=
  IC (AH9 _) libC (Ld (N:=4194304) (by omega) XC (XD w0 (by omega)) (AJ3 w1))
 have hc:=PX (args:=[.agg (CL x0),vSl 2 A0 x1]) (enters_of Tryz.func8 (by decide +kernel) rfl) hP (W:=W) (vs:=#[v0,v1]) (Ay2 hL) rfl (fun i hi=>by
  match i,hi with
  |0,_=>exact e0
  |1,_=>exact e1
  )
 refine hc.mono fun e W' ⟨he,o⟩=>?_;subst he;exact⟨_,rfl,Ai9 rfl (by kernel_rfl) Bc5 (by kernel_rfl) (by rw[Bl4];decide +kernel) d rfl o⟩
theorem own:ownKnob Tryz.prog.godebug=none:=by kernel_rfl
theorem reads (os:Os){H:Type}(enc:TypeId×Value->H):∃places,DataW.whole enc Tryz.prog ((World.laidAll Tryz.prog os Rows.innovClassesUptoRow.laid).forCall (fun _ _=>0) ⟨#[],#[.agg #[.slice none 0 0,.slice none 0 0,.slice none 0 0],.slice none 0 0],[]⟩).memory Tryz.f8.params.toList Rows.innovClassesSpec.vars false (#[.agg #[.slice none 0 0,.slice none 0 0,.slice none 0 0],.slice none 0 0]:Array Value).toList 16=some ([.agg [.nil,.nil,.nil],.nil],[],places):=
 ⟨[],by kernel_rfl⟩
theorem laid_met (os:Os):laidMet Tryz.prog Rows.innovClassesUptoRow.laid ((World.laidAll Tryz.prog os Rows.innovClassesUptoRow.laid).forCall (fun _ _=>0) ⟨#[],#[.agg #[.slice none 0 0,.slice none 0 0,.slice none 0 0],.slice none 0 0],[]⟩).memory:=
 laidMet_laidAll _ (by kernel_rfl) (by kernel_rfl)
theorem liftedUpto (os:Os)(started:os.Started)(H:Type)(enc:TypeId×Value->H)(F:Stop.Interp) :ReturnsInHanded {} Tryz.checked os 8 .any ((Rows.OpenSpec.upto Rows.innovClassesSpec).preRow enc Tryz.prog Tryz.f8 Rows.innovClassesUptoRow.domain false Rows.innovClassesUptoRow.laid) (((Rows.OpenSpec.upto Rows.innovClassesSpec).at F).post enc Tryz.prog Tryz.f8 false true false false):=by
 obtain⟨places,hx⟩:=reads os enc;refine returnsInHanded_of_row (C:=Tryz.checked) (s:=Rows.OpenSpec.upto Rows.innovClassesSpec) own started (by kernel_rfl) Tryz.func8
  (witness_row_at (enc:=enc) (C:=Tryz.checked) false (World.laidAll Tryz.prog os Rows.innovClassesUptoRow.laid) #[.agg #[.slice none 0 0,.slice none 0 0,.slice none 0 0],.slice none 0 0] (World.laidAll_os _ _ _) (by kernel_rfl) (by kernel_rfl) (by kernel_rfl)
   (OpenSpec.preRow_of_cond 16 hx (by kernel_rfl) (fun k hk=>by cases hk;kernel_rfl) (by kernel_rfl) (laid_met os))) ?_
 intro W base args ds gs before b c _ a _ hL _ _;exact contract H enc W base args ds gs before b c (a _ rfl) hL
theorem gA:jA_ Tryz.pinned.checked.prog 8 Tryz.f8 (Rows.OpenSpec.upto Rows.innovClassesSpec).bare Rows.innovClassesUptoRow=true:=by kernel_rfl
theorem gB:jB_ Tryz.pinned.checked.prog 8 Tryz.f8 (Rows.OpenSpec.upto Rows.innovClassesSpec).bare Rows.innovClassesUptoRow=true:=by kernel_rfl
theorem gC:jC_ Tryz.pinned.checked.prog 8 Tryz.f8 (Rows.OpenSpec.upto Rows.innovClassesSpec).bare Rows.innovClassesUptoRow=true:=by kernel_rfl
theorem gD:jD_ Tryz.pinned.checked.prog 8 Tryz.f8 (Rows.OpenSpec.upto Rows.innovClassesSpec).bare Rows.innovClassesUptoRow=true:=by kernel_rfl
theorem gE:jE_ Tryz.pinned.checked.prog 8 Tryz.f8 (Rows.OpenSpec.upto Rows.innovClassesSpec).bare Rows.innovClassesUptoRow=true:=by kernel_rfl
theorem gF:jF_ Tryz.pinned.checked.prog 8 Tryz.f8 (Rows.OpenSpec.upto Rows.innovClassesSpec).bare Rows.innovClassesUptoRow=true:=by kernel_rfl
theorem saidUpto:Rows.InnovClassesUptoSaid:=
 OpenClaim.holds_of_cond 8 Tryz.f8 rfl rfl rfl rfl rfl rfl rfl ⟨rfl,rfl,rfl,rfl,rfl⟩ rfl rfl rfl rfl rfl (by kernel_rfl) Tryz.func8 (Zl gA gB gC gD gE gF)
  (of_decide_eq_true (by kernel_rfl)) (by unfold Func.isWrapper;first|(rw[if_pos (by decide +kernel)];kernel_rfl)|(rw[if_neg (by decide +kernel)];exact⟨rfl,rfl⟩))
  (fun os started H enc _ F=>by rw[OpenClaim.pre_eq_preRow];exact liftedUpto os started H enc F)
theorem plain (f:FuncId)(fn:Func)(b:Tryz.pinned.checked.prog.funcNamed "ablaut/ablautlaw31.InnovClasses" = some f)(a:Tryz.pinned.checked.prog.funcs[f]? = some fn) :true=Tryz.pinned.checked.prog.looks []/\∀(j:Nat) t,fn.params[j]? = some t->Tryz.pinned.checked.prog.wantsStandIn t=false:=by
 obtain rfl:f=8:=AV6 ((show Tryz.prog.funcNamed "ablaut/ablautlaw31.InnovClasses" = some 8 by kernel_rfl).symm.trans b) |>.symm;obtain rfl:fn=Tryz.f8:=(AV6 (Tryz.func8.symm.trans a)).symm;refine⟨by kernel_rfl,fun j t ht=>?_⟩;rw[Bl4]at ht;have hm:=Bj1 ht;simp only[List.mem_toArray,AW1,List.not_mem_nil,or_false]at hm;rcases hm with rfl|rfl
 ·exact (show Tryz.prog.wantsStandIn 75=false by kernel_rfl)
 ·exact (show Tryz.prog.wantsStandIn 76=false by kernel_rfl)
theorem cardUpto:Rows.InnovClassesUptoCardSaid:=
 Claim7.holds_tied_plain_at .later [] _ _ _ _ saidUpto (fun _ h=>by cases h) (by kernel_rfl) (fun _ h=>by cases h) innovClassesUpto_row_tie rfl ⟨rfl,rfl⟩ (by kernel_rfl) rfl plain (by kernel_rfl)
end InClasses
end Go.AM
