/- Part 10. -/
import Derived.Test.YtegikiijkjlikaaGreatDoorSH
import Derived.Test.YtegikiijkjlikaaGreatDoorSG
import Derived.Test.YtegikiijkjlikaaGreatDoorSF
import Derived.Test.YtegikiijkjlikaaGreatDoorSI
import Derived.Lay
set_option linter.defProp false
set_option linter.unusedSimpArgs false
set_option linter.unusedVariables false
set_option linter.unusedSectionVars false
namespace Go.AM
def AF3:=@Go.Proofs.Tryz.underlying22
def AJ1:=@Go.Proofs.Tryz.params9
open Go.RowKit Go.ChangeShapes Go.WideShapes Go.ChangeAt Go.Deep Go.Proofs Go.Proofs.YtegikiijkjlikaaGreatDoor
namespace LoanStays
set_option maxRecDepth 100000
def contract (H:Type)(enc:TypeId×Value->H)(W:World)(base:Nat)(args:Array Value)(ds gs:List (DataW H))(before:List MemPlace)
 (a:∀(j:Nat) t v,Tryz.f9.params[j]? = some t->args[j]? = some v->Value.okWide Tryz.prog W .any base t v)
 (r:DataW.Whole enc Tryz.prog Tryz.f9.params.toList Rows.loansStaysSpec.vars false W args.toList ds gs before) (hk:Rows.uptoSmall H (ds++gs)=true) (hL:laidMetH Tryz.prog Rows.loansStaysUptoRow.laid W) :
 Calls Tryz.prog 9 args W fun e W'=>∃v,e=.returned v/\Rows.loansStaysSpec.post enc Tryz.prog Tryz.f9 false true false false W args v W':=by
 have c:=r;obtain⟨p,q,d,w,rfl,x,y⟩:=r;have s:DataW.TrodAll enc Tryz.prog W 0 (fun _=>true) true Tryz.f9.params.toList args.toList ds p:=d;rw[AJ1]at s a;obtain⟨v0,vs0,d0,ds0,p0,q0,f,rfl,rfl,z,r0⟩:=trodAll_cons s;obtain⟨v1,vs1,d1,ds1,p1,q1,rfl,rfl,rfl,h1,r1⟩:=trodAll_cons r0;obtain⟨rfl,rfl,rfl⟩:=trodAll_nil r1;obtain rfl:args = #[v0,v1]:=by cases args;simp_all
 obtain⟨rfl,rfl⟩:=trodVars_none w;have hb:=of_decide_eq_true hk;simp only[Az1,Rows.uptoBulkAll]at hb;obtain⟨a0,len0,cap0,l⟩:=okWide_slice AF3 (a 0 22 v0 rfl rfl);obtain⟨a1,len1,cap1,m⟩:=okWide_slice AD2 (a 1 23 v1 rfl rfl);obtain⟨fu0,g0⟩:=z;obtain⟨fu1,g1⟩:=h1;have u:YK Tryz.prog [22,85,9,82,3,79,77,4,80,23,83,125]=true:=by kernel_rfl
 have b:∀t∈([22,85,9,82,3,79,77,4,80,23,83,125]:List Nat),t<Tryz.prog.types.size:=by decide +kernel
 obtain⟨pv0,c0,sh0⟩:=Li Ah8 Ah9 u b fu0 22 _ _ (by simp) g0;obtain⟨x0,l0,w0,s0⟩:=CV AF3 (by kernel_rfl) Ul _ _ sh0;have s0:(Ko (fun i=>HK (x0.g i)) x0.n+1)<=Rows.uptoBulk d0:=s0;have e0:=Um (by rw[l];rfl) (c0.leD l0);obtain⟨pv1,c1,sh1⟩:=Li Ah8 Ah9 u b fu1 23 _ _ (by simp) g1;obtain⟨x1,l1,w1,s1⟩:=CV AD2 (by kernel_rfl) CW _ _ sh1;have s1:(Ko (fun i=>AC (x1.g i)) x1.n+1)<=Rows.uptoBulk d1:=s1;have e1:=Um (by rw[m];rfl) (c1.leD l1);have hP:FunO (BR Tryz.prog) AW [.p (vSl 18 A5 x0),.p (vSl 2 A0 x1)] [] (.p (.bb true)) [] []:=
  Iu (Ap2 _) (libE libC) (Kv (N:=4194304) (by omega) SK (Un w0 (by omega)) (Ai0 w1))
 have hc:=Mm (args:=[vSl 18 A5 x0,vSl 2 A0 x1]) (enters_of Tryz.func9 (by decide +kernel) rfl) hP (W:=W) (vs:=#[v0,v1]) (Zz hL) rfl (fun i hi=>by
  match i,hi with
  |0,_=>exact e0
  |1,_=>exact e1
  )
 refine hc.mono fun e W' ⟨he,o⟩=>?_;subst he;exact⟨_,rfl,WL rfl (by kernel_rfl) AB0 (by kernel_rfl) (by rw[AJ1];decide +kernel) c rfl o⟩
def own:ownKnob Tryz.prog.godebug=none:=by kernel_rfl
def reads (os:Os){H:Type}(enc:TypeId×Value->H):∃places,DataW.whole enc Tryz.prog ((World.laidAll Tryz.prog os Rows.loansStaysUptoRow.laid).forCall (fun _ _=>0) ⟨#[],#[.slice none 0 0,.slice none 0 0],[]⟩).memory Tryz.f9.params.toList Rows.loansStaysSpec.vars false (#[.slice none 0 0,.slice none 0 0]:Array Value).toList 16=some ([.nil,.nil],[],places):=
 ⟨[],by kernel_rfl⟩
def laid_met (os:Os):laidMet Tryz.prog Rows.loansStaysUptoRow.laid ((World.laidAll Tryz.prog os Rows.loansStaysUptoRow.laid).forCall (fun _ _=>0) ⟨#[],#[.slice none 0 0,.slice none 0 0],[]⟩).memory:=
 laidMet_laidAll _ (by kernel_rfl) (by kernel_rfl)
def liftedUpto (os:Os)(started:os.Started)(H:Type)(enc:TypeId×Value->H)(F:Stop.Interp) :ReturnsInHanded {} Tryz.checked os 9 .any ((Rows.OpenSpec.upto Rows.loansStaysSpec).preRow enc Tryz.prog Tryz.f9 Rows.loansStaysUptoRow.domain false Rows.loansStaysUptoRow.laid) (((Rows.OpenSpec.upto Rows.loansStaysSpec).at F).post enc Tryz.prog Tryz.f9 false true false false):=by
 obtain⟨places,hx⟩:=reads os enc;refine returnsInHanded_of_row (C:=Tryz.checked) (s:=Rows.OpenSpec.upto Rows.loansStaysSpec) own started (by kernel_rfl) Tryz.func9
  (witness_row_at (enc:=enc) (C:=Tryz.checked) false (World.laidAll Tryz.prog os Rows.loansStaysUptoRow.laid) #[.slice none 0 0,.slice none 0 0] (World.laidAll_os _ _ _) (by kernel_rfl) (by kernel_rfl) (by kernel_rfl)
   (OpenSpec.preRow_of_cond 16 hx (by kernel_rfl) (fun k hk=>by cases hk;kernel_rfl) (by kernel_rfl) (laid_met os))) ?_
 intro W base args ds gs before b c _ a _ hL _ _;exact contract H enc W base args ds gs before b c (a _ rfl) hL
def gA:jA_ Tryz.pinned.checked.prog 9 Tryz.f9 (Rows.OpenSpec.upto Rows.loansStaysSpec).bare Rows.loansStaysUptoRow=true:=by kernel_rfl
def gB:jB_ Tryz.pinned.checked.prog 9 Tryz.f9 (Rows.OpenSpec.upto Rows.loansStaysSpec).bare Rows.loansStaysUptoRow=true:=by kernel_rfl
def gC:jC_ Tryz.pinned.checked.prog 9 Tryz.f9 (Rows.OpenSpec.upto Rows.loansStaysSpec).bare Rows.loansStaysUptoRow=true:=by kernel_rfl
def gD:jD_ Tryz.pinned.checked.prog 9 Tryz.f9 (Rows.OpenSpec.upto Rows.loansStaysSpec).bare Rows.loansStaysUptoRow=true:=by kernel_rfl
def gE:jE_ Tryz.pinned.checked.prog 9 Tryz.f9 (Rows.OpenSpec.upto Rows.loansStaysSpec).bare Rows.loansStaysUptoRow=true:=by kernel_rfl
def gF:jF_ Tryz.pinned.checked.prog 9 Tryz.f9 (Rows.OpenSpec.upto Rows.loansStaysSpec).bare Rows.loansStaysUptoRow=true:=by kernel_rfl
def saidUpto:Rows.LoansStaysUptoSaid:=
 OpenClaim.holds_of_cond 9 Tryz.f9 rfl rfl rfl rfl rfl rfl rfl ⟨rfl,rfl,rfl,rfl,rfl⟩ rfl rfl rfl rfl rfl (by kernel_rfl) Tryz.func9 (Uo gA gB gC gD gE gF)
  (of_decide_eq_true (by kernel_rfl)) (by unfold Func.isWrapper;first|(rw[Nd (by decide +kernel)];kernel_rfl)|(rw[Nf (by decide +kernel)];exact⟨rfl,rfl⟩))
  (fun os started H enc _ F=>by rw[OpenClaim.pre_eq_preRow];exact liftedUpto os started H enc F)
def plain (f:FuncId)(fn:Func)(b:Tryz.pinned.checked.prog.funcNamed "ablaut/ablautlaw28.LoansStays" = some f)(a:Tryz.pinned.checked.prog.funcs[f]? = some fn) :true=Tryz.pinned.checked.prog.looks []/\∀(j:Nat) t,fn.params[j]? = some t->Tryz.pinned.checked.prog.wantsStandIn t=false:=by
 obtain rfl:f=9:=As9 ((show Tryz.prog.funcNamed "ablaut/ablautlaw28.LoansStays" = some 9 by kernel_rfl).symm.trans b) |>.symm;obtain rfl:fn=Tryz.f9:=(As9 (Tryz.func9.symm.trans a)).symm;refine⟨by kernel_rfl,fun j t ht=>?_⟩;rw[AJ1]at ht;have hm:=AG6 ht;simp only[List.mem_toArray,At6,List.not_mem_nil,or_false]at hm;rcases hm with rfl|rfl
 .exact (show Tryz.prog.wantsStandIn 22=false by kernel_rfl)
 exact (show Tryz.prog.wantsStandIn 23=false by kernel_rfl)
def cardUpto:Rows.LoansStaysUptoCardSaid:=
 Claim7.holds_tied_plain_at .later [] _ _ _ _ saidUpto (fun _ h=>by cases h) (by kernel_rfl) (fun _ h=>by cases h) loansStaysUpto_row_tie rfl ⟨rfl,rfl⟩ (by kernel_rfl) rfl plain (by kernel_rfl)
end LoanStays
end Go.AM
